/- For all arguments the program's Combination and the reference's answer alike, the arguments stay, and the result is memory of its own. This text: part 3 of what it rests on: functions of the translation as plain Lean functions, and that the machine's calls come to their answers. -/
import Derived.Test.YtjpbemomocccaaaCFnExactCombinationb
import Derived.Lib.SliceRun
import Derived.Shelf.Abstract
namespace Go.Proofs.Ytjpbemomocccaaa.P
open Go.RowKit Go.Proofs.YtjpbemomocccaaaW.PrintWords Go.Proofs.YtjpbemomocccaaaW.PrintLast Go.Proofs.YtjpbemomocccaaaW.PrintMore
attribute [local go_sem] max2_int min2_int max_two min_two max_three min_three max_four min_four
set_option linter.unusedVariables false
set_option linter.unusedSimpArgs false

/-! ### spec_l03Combine: function 73 -/
def spec_l03Combine.f (k : Nat) (a0_0 : Int) (a0_1 : Int) (l0_2 : List (List Int)) (l1 : List Int) : Option (List Int × Bool) := (spec_l03Turned.f k a0_0 a0_1 l0_2).bind fun bt426 => ((spec_l03Solve.f k bt426.1 bt426.2.1 bt426.2.2 l1).bind fun bt432 => (some (bt432.1, bt432.2)))
set_option maxHeartbeats 8000000 in
set_option maxRecDepth 100000 in
theorem spec_l03Combine.calls (k : Nat) (g0_ : Nat) (a0_0 : Int) (a0_1 : Int) (A0_2 : Option Addr) (c0_2 : Nat) (l0_2 : List (List Int)) (A1 : Option Addr) (c1 : Nat) (l1 : List Int) (r1 : List Int) (r2 : Bool) (w : World) (hx0_ : w.heap[g0_]? = some (.cells #[.int .i64 a0_0, .int .i64 a0_1, .slice A0_2 l0_2.length c0_2] 26 (0, 0))) (hr0_2 : Kd.C (Kd.slice 2 (Kd.int .i64)) w A0_2 l0_2.length l0_2) (hc0_2 : l0_2.length ≤ c0_2) (hr1 : Kd.C (Kd.int .i64) w A1 l1.length l1) (hc1 : l1.length ≤ c1) (h : spec_l03Combine.f k a0_0 a0_1 l0_2 l1 = some (r1, r2)) :
    Calls Try.prog 73 #[.pointer (some ⟨g0_, 0, none⟩), .slice A1 l1.length c1] w fun e w' => ∃ v0_ : Value, e = .returned (.tuple #[v0_, .bool r2]) ∧ Kd.R (Kd.int .i64) 2 w' w.heap.size (fun _ => True) v0_ r1 ∧ Below w.heap.size w w' := by
  have hu26 := Try.underlying26
  have HR0_2 := Aside0.mk hr0_2
  have HC0_2 := Aside0.mk hc0_2
  clear hr0_2 hc0_2
  have HR1 := Aside0.mk hr1
  have HC1 := Aside0.mk hc1
  clear hr1 hc1
  have BK425 := Aside0.mk hx0_
  clear hx0_
  have HB := Aside0.mk (Below.refl w.heap.size w)
  have H : ((spec_l03Turned.f k a0_0 a0_1 l0_2).bind fun bt426 => ((spec_l03Solve.f k bt426.1 bt426.2.1 bt426.2.2 l1).bind fun bt432 => (some (bt432.1, bt432.2)))) = some (r1, r2) := h
  clear h
  replace H := Option.bind_eq_some_iff.mp H
  obtain ⟨⟨t426, t427, t428⟩, A30, H⟩ := H
  replace H : ((spec_l03Solve.f k t426 t427 t428 l1).bind fun bt432 => (some (bt432.1, bt432.2))) = some (r1, r2) := H
  have A3 := Aside0.mk A30
  clear A30
  replace H := Option.bind_eq_some_iff.mp H
  obtain ⟨⟨t432, t435⟩, A40, H⟩ := H
  replace H : (some (t432, t435)) = some (r1, r2) := H
  have A4 := Aside0.mk A40
  clear A40
  simp only [Option.some.injEq, Prod.mk.injEq] at H
  obtain ⟨rfl, rfl⟩ := H
  go_enter Try.func73, Try.ntmps73
  go_wp2_with (first | ((with_reducible refine gate_callee (f := 100) rfl ?_); refine goesL_ (some 8) rfl rfl Try.func100 (by kernel_rfl) rfl #[.pointer (some ⟨g0_, 0, none⟩)] rfl (by (try simp only [List.map_toArray, List.map_cons, List.map_nil]); first | done | rfl | (simp only [List.length_drop, List.length_take]; rfl)) ?_; (with_reducible refine (spec_l03Turned.calls k g0_ a0_0 a0_1 A0_2 c0_2 l0_2 t426 t427 t428 _ ?side1 ?side2 ?side3 A3.out).mono ?_); (case side1 => (with_reducible repeat (first | refine blk_drewN ?_ _ | refine blk_drew ?_ | refine blk_alloc ?_ _)); exact BK425.out); (case side2 => repeat (first | exact HR0_2.out | (with_reducible refine Kd.C_alloc ?_ _) | (with_reducible refine Kd.C_drewN ?_ _) | (with_reducible refine Kd.C_drew ?_))); (case side3 => exact HC0_2.out); rintro e w5 ⟨v429, rfl, ho0, hb⟩; refine ⟨_, rfl, ?_⟩; have n0_ := Aside0.mk (Kd.S_lower ho0 (below_size (by repeat (first | (with_reducible first | exact HB.out | apply below_alloc | apply pw_below_drewN | apply below_drew1 | refine below_set ?_ GE425.out) | exact HB.out)))); have n1_ := Aside0.mk (blk_below (g := g0_) (o := .cells #[.int .i64 a0_0, .int .i64 a0_1, .slice A0_2 l0_2.length c0_2] 26 (0, 0)) (by (with_reducible repeat (first | refine blk_drewN ?_ _ | refine blk_drew ?_ | refine blk_alloc ?_ _)); exact BK425.out) hb); have n2_ := Aside0.mk (below_step (by repeat (first | (with_reducible first | exact HB.out | apply below_alloc | apply pw_below_drewN | apply below_drew1 | refine below_set ?_ GE425.out) | exact HB.out)) hb); clear BK425; clear HB; have HO430 := n0_; have BK425 := n1_; have HB := n2_; clear n0_ n1_ n2_; (try clear hb); (try clear hb2); (try clear hk); (try clear hi); (try clear ho0)) | ((with_reducible refine gate_dst (N := 6) rfl ?_); refine box_event ?hg (N := 6) ?hd (cs := #[.int .i64 0, .int .i64 0, .slice none 0 0]) (t := 26) ?hr ?_; (case hd => rfl); (case hg => rfl); (case hr => first | (go_simp; done) | (go_simp; rfl)); intro gb431 hg w6 hbox hb; have n0_ := Aside0.mk (Kd.S_below (by (with_reducible repeat (first | apply Kd.S_alloc | apply Kd.S_drewN | apply Kd.S_drew)); exact HO430.out) hb); have n1_ := Aside0.mk (blk_below (g := g0_) (o := .cells #[.int .i64 a0_0, .int .i64 a0_1, .slice A0_2 l0_2.length c0_2] 26 (0, 0)) (by (with_reducible repeat (first | refine blk_drewN ?_ _ | refine blk_drew ?_ | refine blk_alloc ?_ _)); exact BK425.out) hb); have n2_ := Aside0.mk (below_step (by repeat (first | (with_reducible first | exact HB.out | apply below_alloc | apply pw_below_drewN | apply below_drew1 | refine below_set ?_ GE425.out) | exact HB.out)) hb); have n3_ := Aside0.mk (hbox); have n4_ := Aside0.mk ((by rw [hg]; exact (below_size (by repeat (first | (with_reducible first | exact HB.out | apply below_alloc | apply pw_below_drewN | apply below_drew1 | refine below_set ?_ GE425.out) | exact HB.out))) : w.heap.size ≤ gb431)); have n5_ := Aside0.mk ((by rw [hg]; exact (below_size (by repeat (first | (with_reducible first | exact HB.out | apply below_alloc | apply pw_below_drewN | apply below_drew1 | refine below_set ?_ GE425.out) | exact HB.out))) : w.heap.size ≤ gb431)); have n6_ := Aside0.mk ((by rw [hg]; exact Nat.ne_of_lt (blk_lt (g := g0_) (o := .cells #[.int .i64 a0_0, .int .i64 a0_1, .slice A0_2 l0_2.length c0_2] 26 (0, 0)) (by (with_reducible repeat (first | refine blk_drewN ?_ _ | refine blk_drew ?_ | refine blk_alloc ?_ _)); exact BK425.out)) : g0_ ≠ gb431)); have n7_ := Aside0.mk ((by rw [hg]; exact Nat.ne_of_gt (blk_lt (g := g0_) (o := .cells #[.int .i64 a0_0, .int .i64 a0_1, .slice A0_2 l0_2.length c0_2] 26 (0, 0)) (by (with_reducible repeat (first | refine blk_drewN ?_ _ | refine blk_drew ?_ | refine blk_alloc ?_ _)); exact BK425.out)) : gb431 ≠ g0_)); clear HO430; clear BK425; clear HB; have HO430 := n0_; have BK425 := n1_; have HB := n2_; have BK431 := n3_; have GW431 := n4_; have GE431 := n5_; have NB425_431 := n6_; have NB431_425 := n7_; clear n0_ n1_ n2_ n3_ n4_ n5_ n6_ n7_; clear hb hbox hg; have hnb7 := NB431_425.out; have hnc7 := NB425_431.out; have hcz8_0 : w6.cell? ⟨gb431, 0, none⟩ = some (.int .i64 0) := (blk_cell BK431.out 0).trans rfl; have hcz8_1 : w6.cell? ⟨gb431, 1, none⟩ = some (.int .i64 0) := (blk_cell BK431.out 1).trans rfl; have hcz8_2 : w6.cell? ⟨gb431, 2, none⟩ = some (.slice none 0 0) := (blk_cell BK431.out 2).trans rfl; have hfz8_0 := blk_frozen BK431.out 0; have hfz8_1 := blk_frozen BK431.out 1; have hfz8_2 := blk_frozen BK431.out 2; obtain ⟨Ao9, co9, eo9⟩ := Kd.S_slice HO430.out; subst eo9) | ((with_reducible refine gate_callee (f := 76) rfl ?_); refine goesL_ (some 10) rfl rfl Try.func76 (by kernel_rfl) rfl #[.pointer (some ⟨gb431, 0, none⟩), .slice A1 l1.length c1] rfl (by (try simp only [List.map_toArray, List.map_cons, List.map_nil]); first | done | rfl | (simp only [List.length_drop, List.length_take]; rfl)) ?_; (with_reducible refine (spec_l03Solve.calls k gb431 t426 t427 Ao9 co9 t428 _ _ l1 t432 t435 _ ?side1 ?side2 ?side3 ?side4 ?side5 A4.out).mono ?_); (case side1 => (with_reducible repeat (first | refine blk_drewN ?_ _ | refine blk_drew ?_ | refine blk_alloc ?_ _)); refine blk_put (cs := #[.int .i64 t426, .int .i64 t427, .slice none 0 0]) ?_ 2 _ rfl; (with_reducible repeat (first | refine blk_drewN ?_ _ | refine blk_drew ?_ | refine blk_alloc ?_ _)); refine blk_put (cs := #[.int .i64 t426, .int .i64 0, .slice none 0 0]) ?_ 1 _ rfl; (with_reducible repeat (first | refine blk_drewN ?_ _ | refine blk_drew ?_ | refine blk_alloc ?_ _)); refine blk_put (cs := #[.int .i64 0, .int .i64 0, .slice none 0 0]) ?_ 0 _ rfl; (with_reducible repeat (first | refine blk_drewN ?_ _ | refine blk_drew ?_ | refine blk_alloc ?_ _)); exact BK431.out); (case side2 => refine (Kd.S_reads' (e := 35) (base := w.heap.size) (ok := fun k_ => True) (n := t428.length) (c := co9) ?_).2.2; exact (by (with_reducible repeat (first | apply Kd.S_alloc | apply Kd.S_drewN | apply Kd.S_drew)); exact (Kd.S_mono (Kd.S_far (p := ⟨gb431, 2, none⟩) (Kd.S_far (p := ⟨gb431, 1, none⟩) (Kd.S_far (p := ⟨gb431, 0, none⟩) (Kd.S_types HO430.out BK431.out (by decide)) (fun _ hk => hk.2) (.int .i64 t426)) (fun _ hk => hk.2) (.int .i64 t427)) (fun _ hk => hk.2) (.slice Ao9 t428.length co9)) (fun _ h_ => h_.1)))); (case side3 => exact (Kd.S_reads' HO430.out).2.1); (case side4 => exact Kd.C_below HR1.out (by repeat (first | (with_reducible first | exact HB.out | apply below_alloc | apply pw_below_drewN | apply below_drew1 | refine below_set ?_ GE425.out | refine below_set ?_ GE431.out) | exact HB.out))); (case side5 => exact HC1.out); rintro e w10 ⟨v433, rfl, ho0, hb⟩; refine ⟨_, rfl, ?_⟩; have n0_ := Aside0.mk (Kd.S_elder' (by (with_reducible repeat (first | apply Kd.S_alloc | apply Kd.S_drewN | apply Kd.S_drew)); exact (Kd.S_mono (Kd.S_far (p := ⟨gb431, 2, none⟩) (Kd.S_far (p := ⟨gb431, 1, none⟩) (Kd.S_far (p := ⟨gb431, 0, none⟩) (Kd.S_types HO430.out BK431.out (by decide)) (fun _ hk => hk.2) (.int .i64 t426)) (fun _ hk => hk.2) (.int .i64 t427)) (fun _ hk => hk.2) (.slice Ao9 t428.length co9)) (fun _ h_ => h_.1))) (Kd.R_base ho0) hb); have n1_ := Aside0.mk (Kd.R_lower ho0 (below_size (by repeat (first | (with_reducible first | exact HB.out | apply below_alloc | apply pw_below_drewN | apply below_drew1 | refine below_set ?_ GE425.out | refine below_set ?_ GE431.out) | exact HB.out)))); have n2_ := Aside0.mk (blk_below (g := g0_) (o := .cells #[.int .i64 a0_0, .int .i64 a0_1, .slice A0_2 l0_2.length c0_2] 26 (0, 0)) (by (with_reducible repeat (first | refine blk_drewN ?_ _ | refine blk_drew ?_ | refine blk_alloc ?_ _)); refine blk_far ?_ NB425_431.out _; (with_reducible repeat (first | refine blk_drewN ?_ _ | refine blk_drew ?_ | refine blk_alloc ?_ _)); refine blk_far ?_ NB425_431.out _; (with_reducible repeat (first | refine blk_drewN ?_ _ | refine blk_drew ?_ | refine blk_alloc ?_ _)); refine blk_far ?_ NB425_431.out _; (with_reducible repeat (first | refine blk_drewN ?_ _ | refine blk_drew ?_ | refine blk_alloc ?_ _)); exact BK425.out) hb); have n3_ := Aside0.mk (blk_below (g := gb431) (o := .cells #[.int .i64 t426, .int .i64 t427, .slice Ao9 t428.length co9] 26 (0, 0)) (by (with_reducible repeat (first | refine blk_drewN ?_ _ | refine blk_drew ?_ | refine blk_alloc ?_ _)); refine blk_put (cs := #[.int .i64 t426, .int .i64 t427, .slice none 0 0]) ?_ 2 _ rfl; (with_reducible repeat (first | refine blk_drewN ?_ _ | refine blk_drew ?_ | refine blk_alloc ?_ _)); refine blk_put (cs := #[.int .i64 t426, .int .i64 0, .slice none 0 0]) ?_ 1 _ rfl; (with_reducible repeat (first | refine blk_drewN ?_ _ | refine blk_drew ?_ | refine blk_alloc ?_ _)); refine blk_put (cs := #[.int .i64 0, .int .i64 0, .slice none 0 0]) ?_ 0 _ rfl; (with_reducible repeat (first | refine blk_drewN ?_ _ | refine blk_drew ?_ | refine blk_alloc ?_ _)); exact BK431.out) hb); have n4_ := Aside0.mk (below_step (by repeat (first | (with_reducible first | exact HB.out | apply below_alloc | apply pw_below_drewN | apply below_drew1 | refine below_set ?_ GE425.out | refine below_set ?_ GE431.out) | exact HB.out)) hb); clear HO430; clear BK425; clear BK431; clear HB; have HO430 := n0_; have HO434 := n1_; have BK425 := n2_; have BK431 := n3_; have HB := n4_; clear n0_ n1_ n2_ n3_ n4_; (try clear hb); (try clear hb2); (try clear hk); (try clear hi); (try clear ho0)))
  go_ret2
  exact ⟨_, by first | rfl | (simp [errW_none, errW_some] <;> rfl) | (simp [*, errW_none, errW_some] <;> rfl), by (with_reducible repeat (first | apply Kd.R_alloc | apply Kd.R_drewN | apply Kd.R_drew)); exact HO434.out, by repeat (first | (with_reducible first | exact HB.out | apply below_alloc | apply pw_below_drewN | apply below_drew1 | refine below_set ?_ GE425.out | refine below_set ?_ GE431.out) | exact HB.out)⟩

end Go.Proofs.Ytjpbemomocccaaa.P

namespace Go.Proofs.Ytjpbemomocccaaa.P
open Go.RowKit Go.Proofs.YtjpbemomocccaaaW.PrintWords Go.Proofs.YtjpbemomocccaaaW.PrintLast Go.Proofs.YtjpbemomocccaaaW.PrintMore
attribute [local go_sem] max2_int min2_int max_two min_two max_three min_three max_four min_four
set_option linter.unusedVariables false
set_option linter.unusedSimpArgs false

/-! ### spec_Combination: function 29 -/
def spec_Combination.f (k : Nat) (a0_0 : Int) (a0_1 : Int) (l0_2 : List (List Int)) (l1 : List Int) : Option (List Int × Int) := (spec_l03Asked.f k a0_0 a0_1 l0_2 l1 false).bind fun t452 => (if t452 = 0 then ((spec_l03Combine.f k a0_0 a0_1 l0_2 l1).bind fun bt453 => (if bt453.2 = true then (some (bt453.1, 0)) else (some ((([] : List Int)), 6)))) else (some ((([] : List Int)), t452)))
set_option maxHeartbeats 8000000 in
set_option maxRecDepth 100000 in
theorem spec_Combination.calls (k : Nat) (a0_0 : Int) (a0_1 : Int) (A0_2 : Option Addr) (c0_2 : Nat) (l0_2 : List (List Int)) (A1 : Option Addr) (c1 : Nat) (l1 : List Int) (r1 : List Int) (r2 : Int) (w : World) (hr0_2 : Kd.C (Kd.slice 2 (Kd.int .i64)) w A0_2 l0_2.length l0_2) (hc0_2 : l0_2.length ≤ c0_2) (hr1 : Kd.C (Kd.int .i64) w A1 l1.length l1) (hc1 : l1.length ≤ c1) (h : spec_Combination.f k a0_0 a0_1 l0_2 l1 = some (r1, r2)) :
    Calls Try.prog 29 #[.agg #[.int .i64 a0_0, .int .i64 a0_1, .slice A0_2 l0_2.length c0_2], .slice A1 l1.length c1] w fun e w' => ∃ v0_ : Value, e = .returned (.tuple #[v0_, .int .i64 r2]) ∧ Kd.R (Kd.int .i64) 2 w' w.heap.size (fun _ => True) v0_ r1 ∧ Below w.heap.size w w' := by
  have hu26 := Try.underlying26
  have HR0_2 := Aside0.mk hr0_2
  have HC0_2 := Aside0.mk hc0_2
  clear hr0_2 hc0_2
  have HR1 := Aside0.mk hr1
  have HC1 := Aside0.mk hc1
  clear hr1 hc1
  have HB := Aside0.mk (Below.refl w.heap.size w)
  have H : ((spec_l03Asked.f k a0_0 a0_1 l0_2 l1 false).bind fun t452 => (if t452 = 0 then ((spec_l03Combine.f k a0_0 a0_1 l0_2 l1).bind fun bt453 => (if bt453.2 = true then (some (bt453.1, 0)) else (some ((([] : List Int)), 6)))) else (some ((([] : List Int)), t452)))) = some (r1, r2) := h
  clear h
  replace H := Option.bind_eq_some_iff.mp H
  obtain ⟨t452, A30, H⟩ := H
  replace H : (if t452 = 0 then ((spec_l03Combine.f k a0_0 a0_1 l0_2 l1).bind fun bt453 => (if bt453.2 = true then (some (bt453.1, 0)) else (some ((([] : List Int)), 6)))) else (some ((([] : List Int)), t452))) = some (r1, r2) := H
  have A3 := Aside0.mk A30
  clear A30
  by_cases c4 : t452 = 0
  · rw [if_pos c4] at H
    have c4b0 : (t452 == 0) = true := beq_iff_eq.mpr c4
    have c4b1 : (t452 != 0) = false := bne_eq_false_iff_eq.mpr c4
    clear c4
    replace H := Option.bind_eq_some_iff.mp H
    obtain ⟨⟨t453, t456⟩, A50, H⟩ := H
    replace H : (if t456 = true then (some (t453, 0)) else (some ((([] : List Int)), 6))) = some (r1, r2) := H
    have A5 := Aside0.mk A50
    clear A50
    by_cases c6 : t456 = true
    · subst c6
      have H1 : (some (t453, 0)) = some (r1, r2) := by rw [if_pos rfl] at H; exact H
      clear H
      have H := H1
      clear H1
      simp only [Option.some.injEq, Prod.mk.injEq] at H
      obtain ⟨rfl, rfl⟩ := H
      go_enter Try.func29, Try.ntmps29
      go_wp2_with (first | ((with_reducible refine gate_dst (N := 2) rfl ?_); refine box_event ?hg (N := 2) ?hd (cs := #[.int .i64 a0_0, .int .i64 a0_1, .slice A0_2 l0_2.length c0_2]) (t := 26) ?hr ?_; (case hd => rfl); (case hg => rfl); (case hr => first | (go_simp; done) | (go_simp; rfl)); intro gb451 hg w7 hbox hb; have n0_ := Aside0.mk (below_step (by repeat (first | (with_reducible first | exact HB.out | apply below_alloc | apply pw_below_drewN | apply below_drew1) | exact HB.out)) hb); have n1_ := Aside0.mk (hbox); have n2_ := Aside0.mk ((by rw [hg]; exact (below_size (by repeat (first | (with_reducible first | exact HB.out | apply below_alloc | apply pw_below_drewN | apply below_drew1) | exact HB.out))) : w.heap.size ≤ gb451)); have n3_ := Aside0.mk ((by rw [hg]; exact (below_size (by repeat (first | (with_reducible first | exact HB.out | apply below_alloc | apply pw_below_drewN | apply below_drew1) | exact HB.out))) : w.heap.size ≤ gb451)); clear HB; have HB := n0_; have BK451 := n1_; have GW451 := n2_; have GE451 := n3_; clear n0_ n1_ n2_ n3_; clear hb hbox hg) | ((with_reducible refine gate_callee (f := 72) rfl ?_); refine goesL_ (some 10) rfl rfl Try.func72 (by kernel_rfl) rfl #[.pointer (some ⟨gb451, 0, none⟩), .slice A1 l1.length c1, .bool false] rfl (by (try simp only [List.map_toArray, List.map_cons, List.map_nil]); first | done | rfl | (simp only [List.length_drop, List.length_take]; rfl)) ?_; (with_reducible refine (spec_l03Asked.calls k gb451 a0_0 a0_1 A0_2 c0_2 l0_2 _ _ l1 false t452 _ ?side1 ?side2 ?side3 ?side4 ?side5 A3.out).mono ?_); (case side1 => (with_reducible repeat (first | refine blk_drewN ?_ _ | refine blk_drew ?_ | refine blk_alloc ?_ _)); exact BK451.out); (case side2 => repeat (first | exact (Kd.C_below HR0_2.out HB.out) | (with_reducible refine Kd.C_alloc ?_ _) | (with_reducible refine Kd.C_drewN ?_ _) | (with_reducible refine Kd.C_drew ?_))); (case side3 => exact HC0_2.out); (case side4 => repeat (first | exact (Kd.C_below HR1.out HB.out) | (with_reducible refine Kd.C_alloc ?_ _) | (with_reducible refine Kd.C_drewN ?_ _) | (with_reducible refine Kd.C_drew ?_))); (case side5 => exact HC1.out); rintro e w8 ⟨rfl, hb⟩; refine ⟨_, rfl, ?_⟩; have n0_ := Aside0.mk (blk_below (g := gb451) (o := .cells #[.int .i64 a0_0, .int .i64 a0_1, .slice A0_2 l0_2.length c0_2] 26 (0, 0)) (by (with_reducible repeat (first | refine blk_drewN ?_ _ | refine blk_drew ?_ | refine blk_alloc ?_ _)); exact BK451.out) hb); have n1_ := Aside0.mk (below_step (by repeat (first | (with_reducible first | exact HB.out | apply below_alloc | apply pw_below_drewN | apply below_drew1 | refine below_set ?_ GE451.out) | exact HB.out)) hb); clear BK451; clear HB; have BK451 := n0_; have HB := n1_; clear n0_ n1_; (try clear hb); (try clear hb2); (try clear hk); (try clear hi)) | ((with_reducible refine gate_callee (f := 73) rfl ?_); refine goesL_ (some 17) rfl rfl Try.func73 (by kernel_rfl) rfl #[.pointer (some ⟨gb451, 0, none⟩), .slice A1 l1.length c1] rfl (by (try simp only [List.map_toArray, List.map_cons, List.map_nil]); first | done | rfl | (simp only [List.length_drop, List.length_take]; rfl)) ?_; (with_reducible refine (spec_l03Combine.calls k gb451 a0_0 a0_1 A0_2 c0_2 l0_2 _ _ l1 t453 true _ ?side1 ?side2 ?side3 ?side4 ?side5 A5.out).mono ?_); (case side1 => (with_reducible repeat (first | refine blk_drewN ?_ _ | refine blk_drew ?_ | refine blk_alloc ?_ _)); exact BK451.out); (case side2 => repeat (first | exact (Kd.C_below HR0_2.out HB.out) | (with_reducible refine Kd.C_alloc ?_ _) | (with_reducible refine Kd.C_drewN ?_ _) | (with_reducible refine Kd.C_drew ?_))); (case side3 => exact HC0_2.out); (case side4 => repeat (first | exact (Kd.C_below HR1.out HB.out) | (with_reducible refine Kd.C_alloc ?_ _) | (with_reducible refine Kd.C_drewN ?_ _) | (with_reducible refine Kd.C_drew ?_))); (case side5 => exact HC1.out); rintro e w9 ⟨v454, rfl, ho0, hb⟩; refine ⟨_, rfl, ?_⟩; have n0_ := Aside0.mk (Kd.R_lower ho0 (below_size (by repeat (first | (with_reducible first | exact HB.out | apply below_alloc | apply pw_below_drewN | apply below_drew1 | refine below_set ?_ GE451.out) | exact HB.out)))); have n1_ := Aside0.mk (blk_below (g := gb451) (o := .cells #[.int .i64 a0_0, .int .i64 a0_1, .slice A0_2 l0_2.length c0_2] 26 (0, 0)) (by (with_reducible repeat (first | refine blk_drewN ?_ _ | refine blk_drew ?_ | refine blk_alloc ?_ _)); exact BK451.out) hb); have n2_ := Aside0.mk (below_step (by repeat (first | (with_reducible first | exact HB.out | apply below_alloc | apply pw_below_drewN | apply below_drew1 | refine below_set ?_ GE451.out) | exact HB.out)) hb); clear BK451; clear HB; have HO455 := n0_; have BK451 := n1_; have HB := n2_; clear n0_ n1_ n2_; (try clear hb); (try clear hb2); (try clear hk); (try clear hi); (try clear ho0)))
      go_ret2
      exact ⟨_, by first | rfl | (simp [errW_none, errW_some] <;> rfl) | (simp [*, errW_none, errW_some] <;> rfl), by (with_reducible repeat (first | apply Kd.R_alloc | apply Kd.R_drewN | apply Kd.R_drew)); exact HO455.out, by repeat (first | (with_reducible first | exact HB.out | apply below_alloc | apply pw_below_drewN | apply below_drew1 | refine below_set ?_ GE451.out) | exact HB.out)⟩
    · replace c6 := Bool.eq_false_iff.mpr c6
      subst c6
      have H1 : (some ((([] : List Int)), 6)) = some (r1, r2) := by rw [if_neg (show ¬ (false = true) by decide)] at H; exact H
      clear H
      have H := H1
      clear H1
      obtain ⟨y457, hy457⟩ : ∃ y_ : List Int, y_ = (([] : List Int)) := ⟨_, rfl⟩
      replace H : (some (y457, 6)) = some (r1, r2) := by first | (rw [hy457]; with_reducible exact H) | (have H2_ := (Option.bind_some _ _).symm.trans H; rw [hy457]; with_reducible exact H2_) | (have H2_ := (Option.bind_some _ _).symm.trans H; with_reducible exact H2_) | with_reducible exact H | (rw [hy457]; exact H) | exact H
      have Ny457 := Aside0.mk hy457
      clear hy457
      simp only [Option.some.injEq, Prod.mk.injEq] at H
      obtain ⟨rfl, rfl⟩ := H
      go_enter Try.func29, Try.ntmps29
      go_wp2_with (first | ((with_reducible refine gate_dst (N := 2) rfl ?_); refine box_event ?hg (N := 2) ?hd (cs := #[.int .i64 a0_0, .int .i64 a0_1, .slice A0_2 l0_2.length c0_2]) (t := 26) ?hr ?_; (case hd => rfl); (case hg => rfl); (case hr => first | (go_simp; done) | (go_simp; rfl)); intro gb451 hg w10 hbox hb; have n0_ := Aside0.mk (below_step (by repeat (first | (with_reducible first | exact HB.out | apply below_alloc | apply pw_below_drewN | apply below_drew1) | exact HB.out)) hb); have n1_ := Aside0.mk (hbox); have n2_ := Aside0.mk ((by rw [hg]; exact (below_size (by repeat (first | (with_reducible first | exact HB.out | apply below_alloc | apply pw_below_drewN | apply below_drew1) | exact HB.out))) : w.heap.size ≤ gb451)); have n3_ := Aside0.mk ((by rw [hg]; exact (below_size (by repeat (first | (with_reducible first | exact HB.out | apply below_alloc | apply pw_below_drewN | apply below_drew1) | exact HB.out))) : w.heap.size ≤ gb451)); clear HB; have HB := n0_; have BK451 := n1_; have GW451 := n2_; have GE451 := n3_; clear n0_ n1_ n2_ n3_; clear hb hbox hg) | ((with_reducible refine gate_callee (f := 72) rfl ?_); refine goesL_ (some 10) rfl rfl Try.func72 (by kernel_rfl) rfl #[.pointer (some ⟨gb451, 0, none⟩), .slice A1 l1.length c1, .bool false] rfl (by (try simp only [List.map_toArray, List.map_cons, List.map_nil]); first | done | rfl | (simp only [List.length_drop, List.length_take]; rfl)) ?_; (with_reducible refine (spec_l03Asked.calls k gb451 a0_0 a0_1 A0_2 c0_2 l0_2 _ _ l1 false t452 _ ?side1 ?side2 ?side3 ?side4 ?side5 A3.out).mono ?_); (case side1 => (with_reducible repeat (first | refine blk_drewN ?_ _ | refine blk_drew ?_ | refine blk_alloc ?_ _)); exact BK451.out); (case side2 => repeat (first | exact (Kd.C_below HR0_2.out HB.out) | (with_reducible refine Kd.C_alloc ?_ _) | (with_reducible refine Kd.C_drewN ?_ _) | (with_reducible refine Kd.C_drew ?_))); (case side3 => exact HC0_2.out); (case side4 => repeat (first | exact (Kd.C_below HR1.out HB.out) | (with_reducible refine Kd.C_alloc ?_ _) | (with_reducible refine Kd.C_drewN ?_ _) | (with_reducible refine Kd.C_drew ?_))); (case side5 => exact HC1.out); rintro e w11 ⟨rfl, hb⟩; refine ⟨_, rfl, ?_⟩; have n0_ := Aside0.mk (blk_below (g := gb451) (o := .cells #[.int .i64 a0_0, .int .i64 a0_1, .slice A0_2 l0_2.length c0_2] 26 (0, 0)) (by (with_reducible repeat (first | refine blk_drewN ?_ _ | refine blk_drew ?_ | refine blk_alloc ?_ _)); exact BK451.out) hb); have n1_ := Aside0.mk (below_step (by repeat (first | (with_reducible first | exact HB.out | apply below_alloc | apply pw_below_drewN | apply below_drew1 | refine below_set ?_ GE451.out) | exact HB.out)) hb); clear BK451; clear HB; have BK451 := n0_; have HB := n1_; clear n0_ n1_; (try clear hb); (try clear hb2); (try clear hk); (try clear hi)) | ((with_reducible refine gate_callee (f := 73) rfl ?_); refine goesL_ (some 17) rfl rfl Try.func73 (by kernel_rfl) rfl #[.pointer (some ⟨gb451, 0, none⟩), .slice A1 l1.length c1] rfl (by (try simp only [List.map_toArray, List.map_cons, List.map_nil]); first | done | rfl | (simp only [List.length_drop, List.length_take]; rfl)) ?_; (with_reducible refine (spec_l03Combine.calls k gb451 a0_0 a0_1 A0_2 c0_2 l0_2 _ _ l1 t453 false _ ?side1 ?side2 ?side3 ?side4 ?side5 A5.out).mono ?_); (case side1 => (with_reducible repeat (first | refine blk_drewN ?_ _ | refine blk_drew ?_ | refine blk_alloc ?_ _)); exact BK451.out); (case side2 => repeat (first | exact (Kd.C_below HR0_2.out HB.out) | (with_reducible refine Kd.C_alloc ?_ _) | (with_reducible refine Kd.C_drewN ?_ _) | (with_reducible refine Kd.C_drew ?_))); (case side3 => exact HC0_2.out); (case side4 => repeat (first | exact (Kd.C_below HR1.out HB.out) | (with_reducible refine Kd.C_alloc ?_ _) | (with_reducible refine Kd.C_drewN ?_ _) | (with_reducible refine Kd.C_drew ?_))); (case side5 => exact HC1.out); rintro e w12 ⟨v454, rfl, ho0, hb⟩; refine ⟨_, rfl, ?_⟩; have n0_ := Aside0.mk (Kd.R_lower ho0 (below_size (by repeat (first | (with_reducible first | exact HB.out | apply below_alloc | apply pw_below_drewN | apply below_drew1 | refine below_set ?_ GE451.out) | exact HB.out)))); have n1_ := Aside0.mk (blk_below (g := gb451) (o := .cells #[.int .i64 a0_0, .int .i64 a0_1, .slice A0_2 l0_2.length c0_2] 26 (0, 0)) (by (with_reducible repeat (first | refine blk_drewN ?_ _ | refine blk_drew ?_ | refine blk_alloc ?_ _)); exact BK451.out) hb); have n2_ := Aside0.mk (below_step (by repeat (first | (with_reducible first | exact HB.out | apply below_alloc | apply pw_below_drewN | apply below_drew1 | refine below_set ?_ GE451.out) | exact HB.out)) hb); clear BK451; clear HB; have HO455 := n0_; have BK451 := n1_; have HB := n2_; clear n0_ n1_ n2_; (try clear hb); (try clear hb2); (try clear hk); (try clear hi); (try clear ho0)) | ((with_reducible refine gate_dst (N := 22) rfl ?_); refine Kd.R_lit (Kd.int .i64) _ 2 ?hg (N := 22) ?hd (xs := ([] : List Int)) (inner := []) (ok := fun _ => True) (okp := fun _ => True) ?hr ?hp (fun _ hk => hk) trivial (Below.refl _ _) (Nat.le_refl _) (by simp) ?_; (case hd => rfl); (case hg => rfl); (case hr => first | (go_simp; done) | (go_simp; rfl)); (case hp => exact (Reps.none _ _)); intro v458 w13 ho14 hb hg_ hnew_; clear hg_ hnew_; (first | rw [← Ny457.out] at ho14 | (simp only [Int.reduceToNat] at ho14; rw [← Ny457.out] at ho14)); have n0_ := Aside0.mk (Kd.R_elder' (by (with_reducible repeat (first | apply Kd.R_alloc | apply Kd.R_drewN | apply Kd.R_drew)); exact HO455.out) (Kd.R_base ho14) hb); have n1_ := Aside0.mk (Kd.R_lower (Kd.R_new' ho14 (Kd.R_lt (by (with_reducible repeat (first | apply Kd.R_alloc | apply Kd.R_drewN | apply Kd.R_drew)); exact HO455.out))) (below_size (by repeat (first | (with_reducible first | exact HB.out | apply below_alloc | apply pw_below_drewN | apply below_drew1 | refine below_set ?_ GE451.out) | exact HB.out)))); have n2_ := Aside0.mk (blk_below (g := gb451) (o := .cells #[.int .i64 a0_0, .int .i64 a0_1, .slice A0_2 l0_2.length c0_2] 26 (0, 0)) (by (with_reducible repeat (first | refine blk_drewN ?_ _ | refine blk_drew ?_ | refine blk_alloc ?_ _)); exact BK451.out) hb); have n3_ := Aside0.mk (below_step (by repeat (first | (with_reducible first | exact HB.out | apply below_alloc | apply pw_below_drewN | apply below_drew1 | refine below_set ?_ GE451.out) | exact HB.out)) hb); clear HO455; clear BK451; clear HB; have HO455 := n0_; have HO459 := n1_; have BK451 := n2_; have HB := n3_; clear n0_ n1_ n2_ n3_; clear hb ho14))
      go_ret2
      exact ⟨_, by first | rfl | (simp [errW_none, errW_some] <;> rfl) | (simp [*, errW_none, errW_some] <;> rfl), by (with_reducible repeat (first | apply Kd.R_alloc | apply Kd.R_drewN | apply Kd.R_drew)); exact Kd.R_mono HO459.out (fun _ hk => trivial), by repeat (first | (with_reducible first | exact HB.out | apply below_alloc | apply pw_below_drewN | apply below_drew1 | refine below_set ?_ GE451.out) | exact HB.out)⟩
  · rw [if_neg c4] at H
    have c4b0 : (t452 == 0) = false := beq_eq_false_iff_ne.mpr c4
    have c4b1 : (t452 != 0) = true := bne_iff_ne.mpr c4
    obtain ⟨y460, hy460⟩ : ∃ y_ : List Int, y_ = (([] : List Int)) := ⟨_, rfl⟩
    replace H : (some (y460, t452)) = some (r1, r2) := by first | (rw [hy460]; with_reducible exact H) | (have H2_ := (Option.bind_some _ _).symm.trans H; rw [hy460]; with_reducible exact H2_) | (have H2_ := (Option.bind_some _ _).symm.trans H; with_reducible exact H2_) | with_reducible exact H | (rw [hy460]; exact H) | exact H
    have Ny460 := Aside0.mk hy460
    clear hy460
    simp only [Option.some.injEq, Prod.mk.injEq] at H
    obtain ⟨rfl, rfl⟩ := H
    go_enter Try.func29, Try.ntmps29
    go_wp2_with (first | ((with_reducible refine gate_dst (N := 2) rfl ?_); refine box_event ?hg (N := 2) ?hd (cs := #[.int .i64 a0_0, .int .i64 a0_1, .slice A0_2 l0_2.length c0_2]) (t := 26) ?hr ?_; (case hd => rfl); (case hg => rfl); (case hr => first | (go_simp; done) | (go_simp; rfl)); intro gb451 hg w15 hbox hb; have n0_ := Aside0.mk (below_step (by repeat (first | (with_reducible first | exact HB.out | apply below_alloc | apply pw_below_drewN | apply below_drew1) | exact HB.out)) hb); have n1_ := Aside0.mk (hbox); have n2_ := Aside0.mk ((by rw [hg]; exact (below_size (by repeat (first | (with_reducible first | exact HB.out | apply below_alloc | apply pw_below_drewN | apply below_drew1) | exact HB.out))) : w.heap.size ≤ gb451)); have n3_ := Aside0.mk ((by rw [hg]; exact (below_size (by repeat (first | (with_reducible first | exact HB.out | apply below_alloc | apply pw_below_drewN | apply below_drew1) | exact HB.out))) : w.heap.size ≤ gb451)); clear HB; have HB := n0_; have BK451 := n1_; have GW451 := n2_; have GE451 := n3_; clear n0_ n1_ n2_ n3_; clear hb hbox hg) | ((with_reducible refine gate_callee (f := 72) rfl ?_); refine goesL_ (some 10) rfl rfl Try.func72 (by kernel_rfl) rfl #[.pointer (some ⟨gb451, 0, none⟩), .slice A1 l1.length c1, .bool false] rfl (by (try simp only [List.map_toArray, List.map_cons, List.map_nil]); first | done | rfl | (simp only [List.length_drop, List.length_take]; rfl)) ?_; (with_reducible refine (spec_l03Asked.calls k gb451 a0_0 a0_1 A0_2 c0_2 l0_2 _ _ l1 false t452 _ ?side1 ?side2 ?side3 ?side4 ?side5 A3.out).mono ?_); (case side1 => (with_reducible repeat (first | refine blk_drewN ?_ _ | refine blk_drew ?_ | refine blk_alloc ?_ _)); exact BK451.out); (case side2 => repeat (first | exact (Kd.C_below HR0_2.out HB.out) | (with_reducible refine Kd.C_alloc ?_ _) | (with_reducible refine Kd.C_drewN ?_ _) | (with_reducible refine Kd.C_drew ?_))); (case side3 => exact HC0_2.out); (case side4 => repeat (first | exact (Kd.C_below HR1.out HB.out) | (with_reducible refine Kd.C_alloc ?_ _) | (with_reducible refine Kd.C_drewN ?_ _) | (with_reducible refine Kd.C_drew ?_))); (case side5 => exact HC1.out); rintro e w16 ⟨rfl, hb⟩; refine ⟨_, rfl, ?_⟩; have n0_ := Aside0.mk (blk_below (g := gb451) (o := .cells #[.int .i64 a0_0, .int .i64 a0_1, .slice A0_2 l0_2.length c0_2] 26 (0, 0)) (by (with_reducible repeat (first | refine blk_drewN ?_ _ | refine blk_drew ?_ | refine blk_alloc ?_ _)); exact BK451.out) hb); have n1_ := Aside0.mk (below_step (by repeat (first | (with_reducible first | exact HB.out | apply below_alloc | apply pw_below_drewN | apply below_drew1 | refine below_set ?_ GE451.out) | exact HB.out)) hb); clear BK451; clear HB; have BK451 := n0_; have HB := n1_; clear n0_ n1_; (try clear hb); (try clear hb2); (try clear hk); (try clear hi)) | ((with_reducible refine gate_dst (N := 13) rfl ?_); refine Kd.R_lit (Kd.int .i64) _ 2 ?hg (N := 13) ?hd (xs := ([] : List Int)) (inner := []) (ok := fun _ => True) (okp := fun _ => True) ?hr ?hp (fun _ hk => hk) trivial (Below.refl _ _) (Nat.le_refl _) (by simp) ?_; (case hd => rfl); (case hg => rfl); (case hr => first | (go_simp; done) | (go_simp; rfl)); (case hp => exact (Reps.none _ _)); intro v461 w17 ho18 hb hg_ hnew_; clear hg_ hnew_; (first | rw [← Ny460.out] at ho18 | (simp only [Int.reduceToNat] at ho18; rw [← Ny460.out] at ho18)); have n0_ := Aside0.mk (Kd.R_lower ho18 (below_size (by repeat (first | (with_reducible first | exact HB.out | apply below_alloc | apply pw_below_drewN | apply below_drew1 | refine below_set ?_ GE451.out) | exact HB.out)))); have n1_ := Aside0.mk (blk_below (g := gb451) (o := .cells #[.int .i64 a0_0, .int .i64 a0_1, .slice A0_2 l0_2.length c0_2] 26 (0, 0)) (by (with_reducible repeat (first | refine blk_drewN ?_ _ | refine blk_drew ?_ | refine blk_alloc ?_ _)); exact BK451.out) hb); have n2_ := Aside0.mk (below_step (by repeat (first | (with_reducible first | exact HB.out | apply below_alloc | apply pw_below_drewN | apply below_drew1 | refine below_set ?_ GE451.out) | exact HB.out)) hb); clear BK451; clear HB; have HO462 := n0_; have BK451 := n1_; have HB := n2_; clear n0_ n1_ n2_; clear hb ho18))
    go_ret2
    exact ⟨_, by first | rfl | (simp [errW_none, errW_some] <;> rfl) | (simp [*, errW_none, errW_some] <;> rfl), by (with_reducible repeat (first | apply Kd.R_alloc | apply Kd.R_drewN | apply Kd.R_drew)); exact HO462.out, by repeat (first | (with_reducible first | exact HB.out | apply below_alloc | apply pw_below_drewN | apply below_drew1 | refine below_set ?_ GE451.out) | exact HB.out)⟩

end Go.Proofs.Ytjpbemomocccaaa.P

namespace Go.Proofs.Ytjpbemomocccaaa.P
open Go.RowKit Go.Proofs.YtjpbemomocccaaaW.PrintWords Go.Proofs.YtjpbemomocccaaaW.PrintLast Go.Proofs.YtjpbemomocccaaaW.PrintMore
attribute [local go_sem] max2_int min2_int max_two min_two max_three min_three max_four min_four
set_option linter.unusedVariables false
set_option linter.unusedSimpArgs false

/-! ### slices_IndexFunc_int64_int64_110: function 110 (by hand) -/
/-- slices.IndexFunc over [][]int64: the place of the first element of which the closure says yes, or -1. -/
def idxR.l0 : Nat → (List Int → Option Bool) → List (List Int) → Int → Option Int
  | 0, _, _, _ => none
  | k + 1, p, xs, i => if i < (xs.length : Int) then (if 0 ≤ i then ((p (rd_L1 xs i)).bind fun t => if t = true then (some i) else (idxR.l0 k p xs (wrap64 (i + 1)))) else none) else some (-1)
set_option maxHeartbeats 8000000 in
set_option maxRecDepth 100000 in
theorem idxR.calls (k : Nat) (p : List Int → Option Bool) (g : Nat) (lb : Array Value) (eg : ∀ args w, (callFunc g args).run Try.prog w = .ok (.enter g args) w) (A0 : Option Addr) (c0 : Nat) (l0 : List (List Int)) (r : Int) (w : World)
    (hr0 : Kd.C (Kd.slice 2 (Kd.int .i64)) w A0 l0.length l0)
    (hp : ∀ (W : World) (x : List Int) (A : Option Addr) (c : Nat) (b : Bool), p x = some b → Below w.heap.size w W → Kd.C (Kd.int .i64) W A x.length x → x.length ≤ c → Calls Try.prog g (#[.slice A x.length c] ++ lb) W fun e w' => e = .returned (.bool b) ∧ Below w.heap.size w w')
    (h : idxR.l0 k p l0 0 = some r) :
    Calls Try.prog 110 #[.slice A0 l0.length c0, .func (.func g) #[] lb] w fun e w' => e = .returned (.int .i64 r) ∧ Below w.heap.size w w' := by
  have HR0 := Aside0.mk hr0
  clear hr0
  have HP := Aside0.mk hp
  clear hp
  have HB := Aside0.mk (Below.refl w.heap.size w)
  have H' := Aside0.mk h
  clear h
  go_enter Try.func110, Try.ntmps110
  go_wp2
  go_loopg [5, 8] k (fun kq _ v8 w' => ∃ (x8 : Int), v8 = .int .i64 x8 ∧ Aside0 (idxR.l0 kq p l0 x8 = some r) ∧ Aside0 (kq ≤ k) ∧ Aside0 (Below w.heap.size w w'))
  case atStart => exact ⟨0, rfl, H', ⟨Nat.le_refl _⟩, HB⟩
  case round =>
    clear H' HB
    obtain ⟨x8, rfl, HA, HK1, HB⟩ := hrel
    cases gk with
    | zero => exact absurd HA.out (by simp [idxR.l0])
    | succ k1 =>
      have H := HA.out
      clear HA
      simp only [idxR.l0] at H
      by_cases c6 : x8 < (l0.length : Int)
      · rw [if_pos c6] at H
        have c6b0 : decide (x8 < (l0.length : Int)) = true := decide_eq_true c6
        clear c6
        by_cases c7 : 0 ≤ x8
        · rw [if_pos c7] at H
          have c7b0 : decide (0 ≤ x8) = true := decide_eq_true c7
          clear c7
          replace H := Option.bind_eq_some_iff.mp H
          obtain ⟨t, At, H⟩ := H
          have A3 := Aside0.mk At
          clear At
          have p104 : 0 ≤ (x8 : Int) := of_decide_eq_true (by assumption)
          have q104 : x8 < (l0.length : Int) := of_decide_eq_true (by assumption)
          obtain ⟨ad104, Ae, ce, e104, hx104_0, hle, hre⟩ := at_L1 HR0.out x8 p104 q104
          cases e104
          have HE := Aside0.mk (Kd.C_below hre HB.out)
          have HL := Aside0.mk hle
          clear hre hle
          replace hx104_0 := (HB.out.cell (World.block_lt_of_cell? w _ hx104_0)).trans hx104_0
          replace p104 := eq_true p104
          replace q104 := eq_true q104
          cases t with
          | true =>
            rw [if_pos rfl] at H
            obtain rfl := Option.some.inj H
            go_wp2_with (go_at_fn g; refine (HP.out _ _ _ _ _ A3.out HB.out HE.out HL.out).mono ?_; rintro e w' ⟨rfl, hb'⟩)
            go_ret
            exact ⟨rfl, hb'⟩
          | false =>
            rw [if_neg (by decide)] at H
            have H' := Aside0.mk H
            clear H
            go_wp2_with (go_at_fn g; refine (HP.out _ _ _ _ _ A3.out HB.out HE.out HL.out).mono ?_; rintro e w' ⟨rfl, hb'⟩)
            go_roundg k1
            case measure => have := HK1.out; omega
            case rel => exact ⟨_, rfl, H', ⟨by have := HK1.out; omega⟩, ⟨hb'⟩⟩
        · rw [if_neg c7] at H
          exact absurd H (by simp)
      · rw [if_neg c6] at H
        have c6b0 : decide (x8 < (l0.length : Int)) = false := decide_eq_false c6
        clear c6
        obtain rfl := Option.some.inj H
        go_wp2
        go_ret
        exact ⟨rfl, HB.out⟩
theorem idxR.mono_p : ∀ k p p' xs i, (∀ x, LeO (p x) (p' x)) → LeO (idxR.l0 k p xs i) (idxR.l0 k p' xs i)
  | 0, _, _, _, _, _ => fun r h => by simp [idxR.l0] at h
  | k + 1, p, p', xs, i, hp => by
    have ih := idxR.mono_p k p p'
    unfold idxR.l0
    refine LeO.ite (LeO.ite (LeO.bind (hp _) (fun t => LeO.ite (LeO.refl _) (ih _ _ hp))) (LeO.refl _)) (LeO.refl _)

end Go.Proofs.Ytjpbemomocccaaa.P

namespace Go.Proofs.Ytjpbemomocccaaa.P
open Go.RowKit Go.Proofs.YtjpbemomocccaaaW.PrintWords Go.Proofs.YtjpbemomocccaaaW.PrintLast Go.Proofs.YtjpbemomocccaaaW.PrintMore
attribute [local go_sem] max2_int min2_int max_two min_two max_three min_three max_four min_four
set_option linter.unusedVariables false
set_option linter.unusedSimpArgs false

/-! ### slices_ContainsFunc_int64_int64_93: function 93 (by hand) -/
def hasR.f (k : Nat) (p : List Int → Option Bool) (xs : List (List Int)) : Option Bool := (idxR.l0 k p xs 0).bind fun i => some (decide (0 ≤ i))
set_option maxHeartbeats 8000000 in
set_option maxRecDepth 100000 in
theorem hasR.calls (k : Nat) (p : List Int → Option Bool) (g : Nat) (lb : Array Value) (eg : ∀ args w, (callFunc g args).run Try.prog w = .ok (.enter g args) w) (A0 : Option Addr) (c0 : Nat) (l0 : List (List Int)) (r : Bool) (w : World)
    (hr0 : Kd.C (Kd.slice 2 (Kd.int .i64)) w A0 l0.length l0)
    (hp : ∀ (W : World) (x : List Int) (A : Option Addr) (c : Nat) (b : Bool), p x = some b → Below w.heap.size w W → Kd.C (Kd.int .i64) W A x.length x → x.length ≤ c → Calls Try.prog g (#[.slice A x.length c] ++ lb) W fun e w' => e = .returned (.bool b) ∧ Below w.heap.size w w')
    (h : hasR.f k p l0 = some r) :
    Calls Try.prog 93 #[.slice A0 l0.length c0, .func (.func g) #[] lb] w fun e w' => e = .returned (.bool r) ∧ Below w.heap.size w w' := by
  have H := h
  unfold hasR.f at H
  replace H := Option.bind_eq_some_iff.mp H
  obtain ⟨i, Ai, H⟩ := H
  obtain rfl := Option.some.inj H
  have A3 := Aside0.mk Ai
  clear Ai h H
  have HP := Aside0.mk hp
  clear hp
  have HR0 := Aside0.mk hr0
  clear hr0
  go_enter Try.func93, Try.ntmps93
  go_wp2_with (first | ((with_reducible refine gate_callee (f := 110) rfl ?_); refine goesL_ (some 7) rfl rfl Try.func110 (by kernel_rfl) rfl #[.slice A0 l0.length c0, .func (.func g) #[] lb] rfl (by (try simp only [List.map_toArray, List.map_cons, List.map_nil]); first | done | rfl) ?_; (with_reducible refine (idxR.calls k p g lb eg _ _ l0 i _ ?side1 ?side2 A3.out).mono ?_); (case side1 => exact HR0.out); (case side2 => exact HP.out); rintro e w' ⟨rfl, hb⟩; refine ⟨_, rfl, ?_⟩))
  go_ret
  exact ⟨rfl, hb⟩
end Go.Proofs.Ytjpbemomocccaaa.P

namespace Go.Proofs.Ytjpbemomocccaaa.P
open Go.RowKit Go.Proofs.YtjpbemomocccaaaW.PrintWords Go.Proofs.YtjpbemomocccaaaW.PrintLast Go.Proofs.YtjpbemomocccaaaW.PrintMore
attribute [local go_sem] max2_int min2_int max_two min_two max_three min_three max_four min_four
set_option linter.unusedVariables false
set_option linter.unusedSimpArgs false

/-! ### impl_ValidMatrix: function 50 (by hand) -/
/-- The closure of ValidMatrix: is a row none of this matrix? -/
def ValidMatrix_p (k : Nat) (p cols : Int) (row : List Int) : Option Bool := if (row.length : Int) = cols then ((impl_areElements.f k p row).bind fun t => some (!t)) else some true
def impl_ValidMatrix.f (k : Nat) (a0_0 : Int) (a0_1 : Int) (l0_2 : List (List Int)) : Option Bool :=
  (impl_IsPrime.f k a0_0).bind fun t => if t = true then ((impl_within.f a0_1 0 12).bind fun u => if u = true then (if (l0_2.length : Int) ≤ 20 then ((hasR.f k (ValidMatrix_p k a0_0 a0_1) l0_2).bind fun v => some (!v)) else some false) else some false) else some false
theorem ValidMatrix_p.mono (p cols : Int) (row : List Int) (k : Nat) : LeO (ValidMatrix_p k p cols row) (ValidMatrix_p (k + 1) p cols row) := by
  unfold ValidMatrix_p
  exact LeO.ite (LeO.bind (impl_areElements.mono _ _ _) (fun _ => LeO.refl _)) (LeO.refl _)
set_option maxHeartbeats 8000000 in
set_option maxRecDepth 100000 in
theorem ValidMatrix_p.calls (k : Nat) (p cols : Int) (x : List Int) (A : Option Addr) (c : Nat) (b : Bool) (B : Nat) (W : World) (h0 : W.cell? ⟨B, 0, none⟩ = some (.int .i64 p)) (h1 : W.cell? ⟨B, 1, none⟩ = some (.int .i64 cols)) (hr : Kd.C (Kd.int .i64) W A x.length x) (hc : x.length ≤ c) (h : ValidMatrix_p k p cols x = some b) :
    Calls Try.prog 94 #[.slice A x.length c, .pointer (some ⟨B, 0, none⟩)] W fun e w' => e = .returned (.bool b) ∧ Below W.heap.size W w' := by
  have HR := Aside0.mk hr
  have HC := Aside0.mk hc
  clear hr hc
  unfold ValidMatrix_p at h
  by_cases e : (x.length : Int) = cols
  · rw [if_pos e] at h
    replace h := Option.bind_eq_some_iff.mp h
    obtain ⟨t, At, H⟩ := h
    obtain rfl := Option.some.inj H
    have A3 := Aside0.mk At
    clear At H
    have eb0 : ((x.length : Int) == cols) = true := beq_iff_eq.mpr e
    have eb1 : ((x.length : Int) != cols) = false := bne_eq_false_iff_eq.mpr e
    clear e
    go_enter Try.func94, Try.ntmps94
    go_wp2_with (first | (go_at_call 95; (with_reducible refine (impl_areElements.calls k p A c x t _ ?side1 ?side2 A3.out).mono ?_); (case side1 => exact HR.out); (case side2 => exact HC.out); rintro e w' ⟨rfl, hb⟩))
    go_ret
    exact ⟨rfl, hb⟩
  · rw [if_neg e] at h
    obtain rfl := Option.some.inj h
    have eb0 : ((x.length : Int) == cols) = false := beq_eq_false_iff_ne.mpr e
    have eb1 : ((x.length : Int) != cols) = true := bne_iff_ne.mpr e
    clear e h
    go_enter Try.func94, Try.ntmps94
    go_wp2
    go_ret
    exact ⟨rfl, Below.refl _ _⟩
set_option maxHeartbeats 8000000 in
set_option maxRecDepth 100000 in
theorem impl_ValidMatrix.calls (k : Nat) (a0_0 : Int) (a0_1 : Int) (A0_2 : Option Addr) (c0_2 : Nat) (l0_2 : List (List Int)) (r : Bool) (w : World) (hr0_2 : Kd.C (Kd.slice 2 (Kd.int .i64)) w A0_2 l0_2.length l0_2) (hc0_2 : l0_2.length ≤ c0_2) (h : impl_ValidMatrix.f k a0_0 a0_1 l0_2 = some r) :
    Calls Try.prog 50 #[.agg #[.int .i64 a0_0, .int .i64 a0_1, .slice A0_2 l0_2.length c0_2]] w fun e w' => e = .returned (.bool r) ∧ Below w.heap.size w w' := by
  have hum := Try.underlying26
  have HR := Aside0.mk hr0_2
  clear hr0_2 hc0_2
  unfold impl_ValidMatrix.f at h
  replace h := Option.bind_eq_some_iff.mp h
  obtain ⟨t, At, H⟩ := h
  have A3 := Aside0.mk At
  clear At
  cases t with
  | false =>
    rw [if_neg (by decide)] at H
    obtain rfl := Option.some.inj H
    clear H
    go_enter Try.func50, Try.ntmps50
    go_wp2_with (first | (go_at_call 91; (with_reducible refine (impl_IsPrime.calls k a0_0 false _ A3.out).mono ?_); rintro e w' ⟨rfl, ⟨nd, rfl⟩⟩))
    go_ret
    exact ⟨rfl, by repeat (first | exact Below.refl _ _ | apply below_alloc | apply pw_below_drewN | apply below_drew1)⟩
  | true =>
    rw [if_pos rfl] at H
    replace H := Option.bind_eq_some_iff.mp H
    obtain ⟨u, Au, H⟩ := H
    have A4 := Aside0.mk Au
    clear Au
    cases u with
    | false =>
      rw [if_neg (by decide)] at H
      obtain rfl := Option.some.inj H
      clear H
      go_enter Try.func50, Try.ntmps50
      go_wp2_with (first | (go_at_call 91; (with_reducible refine (impl_IsPrime.calls k a0_0 true _ A3.out).mono ?_); rintro e w' ⟨rfl, ⟨nd, rfl⟩⟩) | (go_at_call 92; (with_reducible refine (impl_within.calls _ _ _ false _ A4.out).mono ?_); rintro e w' ⟨rfl, ⟨nd, rfl⟩⟩))
      go_ret
      exact ⟨rfl, by repeat (first | exact Below.refl _ _ | apply below_alloc | apply pw_below_drewN | apply below_drew1)⟩
    | true =>
      rw [if_pos rfl] at H
      by_cases hl : (l0_2.length : Int) ≤ 20
      · rw [if_pos hl] at H
        have hlb0 : decide ((l0_2.length : Int) ≤ 20) = true := decide_eq_true hl
        have hlb1 : decide (l0_2.length ≤ 20) = true := decide_eq_true (by omega)
        clear hl
        replace H := Option.bind_eq_some_iff.mp H
        obtain ⟨v, Av, H⟩ := H
        obtain rfl := Option.some.inj H
        have A5 := Aside0.mk Av
        clear Av H
        have eg : ∀ (args : Array Value) (w : World), (callFunc 94 args).run Try.prog w = .ok (.enter 94 args) w := enters_of Try.func94 (by kernel_rfl) rfl
        go_enter Try.func50, Try.ntmps50
        go_wp2_with (first | (go_at_call 91; (with_reducible refine (impl_IsPrime.calls k a0_0 true _ A3.out).mono ?_); rintro e w' ⟨rfl, ⟨nd, rfl⟩⟩) | (go_at_call 92; (with_reducible refine (impl_within.calls _ _ _ true _ A4.out).mono ?_); rintro e w' ⟨rfl, ⟨nd2, rfl⟩⟩) | (go_at_call 93; (with_reducible refine (hasR.calls k (ValidMatrix_p k a0_0 a0_1) 94 #[.pointer (some ⟨w.heap.size, 0, none⟩)] eg _ _ l0_2 v _ ?side1 ?side2 A5.out).mono ?_); (case side1 => repeat (first | exact HR.out | (with_reducible refine Kd.C_alloc ?_ _) | (with_reducible refine Kd.C_drewN ?_ _) | (with_reducible refine Kd.C_drew ?_))); (case side2 => exact fun W x A c b hx hb hr hc => ((ValidMatrix_p.calls k a0_0 a0_1 x A c b w.heap.size W ((hb.cell (p := ⟨w.heap.size, 0, none⟩) (by simp)).trans ((blk_cell (cs := #[.int .i64 a0_0, .int .i64 a0_1, .slice A0_2 l0_2.length c0_2]) (t := 26) (by (with_reducible repeat (first | refine blk_drewN ?_ _ | refine blk_drew ?_)); exact blk_new w _) 0).trans rfl)) ((hb.cell (p := ⟨w.heap.size, 1, none⟩) (by simp)).trans ((blk_cell (cs := #[.int .i64 a0_0, .int .i64 a0_1, .slice A0_2 l0_2.length c0_2]) (t := 26) (by (with_reducible repeat (first | refine blk_drewN ?_ _ | refine blk_drew ?_)); exact blk_new w _) 1).trans rfl)) hr hc hx).mono (fun e w' ⟨he, hd⟩ => ⟨he, below_step hb hd⟩))); rintro e w' ⟨rfl, hb⟩))
        go_ret
        exact ⟨rfl, below_step (by repeat (first | exact Below.refl _ _ | apply below_alloc | apply pw_below_drewN | apply below_drew1)) hb⟩
      · rw [if_neg hl] at H
        have hlb0 : decide ((l0_2.length : Int) ≤ 20) = false := decide_eq_false hl
        have hlb1 : decide (l0_2.length ≤ 20) = false := decide_eq_false (by omega)
        clear hl
        obtain rfl := Option.some.inj H
        clear H
        go_enter Try.func50, Try.ntmps50
        go_wp2_with (first | (go_at_call 91; (with_reducible refine (impl_IsPrime.calls k a0_0 true _ A3.out).mono ?_); rintro e w' ⟨rfl, ⟨nd, rfl⟩⟩) | (go_at_call 92; (with_reducible refine (impl_within.calls _ _ _ true _ A4.out).mono ?_); rintro e w' ⟨rfl, ⟨nd2, rfl⟩⟩))
        go_ret
        exact ⟨rfl, by repeat (first | exact Below.refl _ _ | apply below_alloc | apply pw_below_drewN | apply below_drew1)⟩

end Go.Proofs.Ytjpbemomocccaaa.P

namespace Go.Proofs.Ytjpbemomocccaaa.P
open Go.RowKit Go.Proofs.YtjpbemomocccaaaW.PrintWords Go.Proofs.YtjpbemomocccaaaW.PrintLast Go.Proofs.YtjpbemomocccaaaW.PrintMore
attribute [local go_sem] max2_int min2_int max_two min_two max_three min_three max_four min_four
set_option linter.unusedVariables false
set_option linter.unusedSimpArgs false

/-! ### impl_targetCode: function 74 -/
def impl_targetCode.f (k : Nat) (a0_0 : Int) (a0_1 : Int) (l0_2 : List (List Int)) (l1 : List Int) (a2 : Int) : Option (Int) := (impl_ValidMatrix.f k a0_0 a0_1 l0_2).bind fun t443 => (if t443 = true then (if (l1.length : Int) = a2 then ((impl_areElements.f k a0_0 l1).bind fun t444 => (if t444 = true then (some 0) else (some 2))) else (some 2)) else (some 1))
set_option maxHeartbeats 8000000 in
set_option maxRecDepth 100000 in
theorem impl_targetCode.calls (k : Nat) (a0_0 : Int) (a0_1 : Int) (A0_2 : Option Addr) (c0_2 : Nat) (l0_2 : List (List Int)) (A1 : Option Addr) (c1 : Nat) (l1 : List Int) (a2 : Int) (r : Int) (w : World) (hr0_2 : Kd.C (Kd.slice 2 (Kd.int .i64)) w A0_2 l0_2.length l0_2) (hc0_2 : l0_2.length ≤ c0_2) (hr1 : Kd.C (Kd.int .i64) w A1 l1.length l1) (hc1 : l1.length ≤ c1) (h : impl_targetCode.f k a0_0 a0_1 l0_2 l1 a2 = some r) :
    Calls Try.prog 74 #[.agg #[.int .i64 a0_0, .int .i64 a0_1, .slice A0_2 l0_2.length c0_2], .slice A1 l1.length c1, .int .i64 a2] w fun e w' => e = .returned (.int .i64 r) ∧ Below w.heap.size w w' := by
  have hu26 := Try.underlying26
  have HR0_2 := Aside0.mk hr0_2
  have HC0_2 := Aside0.mk hc0_2
  clear hr0_2 hc0_2
  have HR1 := Aside0.mk hr1
  have HC1 := Aside0.mk hc1
  clear hr1 hc1
  have HB := Aside0.mk (Below.refl w.heap.size w)
  have H : ((impl_ValidMatrix.f k a0_0 a0_1 l0_2).bind fun t443 => (if t443 = true then (if (l1.length : Int) = a2 then ((impl_areElements.f k a0_0 l1).bind fun t444 => (if t444 = true then (some 0) else (some 2))) else (some 2)) else (some 1))) = some r := h
  clear h
  replace H := Option.bind_eq_some_iff.mp H
  obtain ⟨t443, A40, H⟩ := H
  replace H : (if t443 = true then (if (l1.length : Int) = a2 then ((impl_areElements.f k a0_0 l1).bind fun t444 => (if t444 = true then (some 0) else (some 2))) else (some 2)) else (some 1)) = some r := H
  have A4 := Aside0.mk A40
  clear A40
  by_cases c5 : t443 = true
  · subst c5
    have H1 : (if (l1.length : Int) = a2 then ((impl_areElements.f k a0_0 l1).bind fun t444 => (if t444 = true then (some 0) else (some 2))) else (some 2)) = some r := by rw [if_pos rfl] at H; exact H
    clear H
    have H := H1
    clear H1
    by_cases c6 : (l1.length : Int) = a2
    · rw [if_pos c6] at H
      have c6b0 : ((l1.length : Int) == a2) = true := beq_iff_eq.mpr c6
      have c6b1 : ((l1.length : Int) != a2) = false := bne_eq_false_iff_eq.mpr c6
      clear c6
      replace H := Option.bind_eq_some_iff.mp H
      obtain ⟨t444, A70, H⟩ := H
      replace H : (if t444 = true then (some 0) else (some 2)) = some r := H
      have A7 := Aside0.mk A70
      clear A70
      by_cases c8 : t444 = true
      · subst c8
        have H1 : (some 0) = some r := by rw [if_pos rfl] at H; exact H
        clear H
        have H := H1
        clear H1
        obtain rfl := Option.some.inj H
        go_enter Try.func74, Try.ntmps74
        go_wp2_with (first | ((with_reducible refine gate_dst (N := 3) rfl ?_); refine box_event ?hg (N := 3) ?hd (cs := #[.int .i64 a0_0, .int .i64 a0_1, .slice A0_2 l0_2.length c0_2]) (t := 26) ?hr ?_; (case hd => rfl); (case hg => rfl); (case hr => first | (go_simp; done) | (go_simp; rfl)); intro gb442 hg w9 hbox hb; have n0_ := Aside0.mk (below_step (by repeat (first | (with_reducible first | exact HB.out | apply below_alloc | apply pw_below_drewN | apply below_drew1) | exact HB.out)) hb); have n1_ := Aside0.mk (hbox); have n2_ := Aside0.mk ((by rw [hg]; exact (below_size (by repeat (first | (with_reducible first | exact HB.out | apply below_alloc | apply pw_below_drewN | apply below_drew1) | exact HB.out))) : w.heap.size ≤ gb442)); have n3_ := Aside0.mk ((by rw [hg]; exact (below_size (by repeat (first | (with_reducible first | exact HB.out | apply below_alloc | apply pw_below_drewN | apply below_drew1) | exact HB.out))) : w.heap.size ≤ gb442)); clear HB; have HB := n0_; have BK442 := n1_; have GW442 := n2_; have GE442 := n3_; clear n0_ n1_ n2_ n3_; clear hb hbox hg; have hcz10_0 : w9.cell? ⟨gb442, 0, none⟩ = some (.int .i64 a0_0) := (blk_cell BK442.out 0).trans rfl; have hcz10_1 : w9.cell? ⟨gb442, 1, none⟩ = some (.int .i64 a0_1) := (blk_cell BK442.out 1).trans rfl; have hcz10_2 : w9.cell? ⟨gb442, 2, none⟩ = some (.slice A0_2 l0_2.length c0_2) := (blk_cell BK442.out 2).trans rfl; have hfz10_0 := blk_frozen BK442.out 0; have hfz10_1 := blk_frozen BK442.out 1; have hfz10_2 := blk_frozen BK442.out 2) | ((with_reducible refine gate_callee (f := 50) rfl ?_); refine goesL_ (some 9) rfl rfl Try.func50 (by kernel_rfl) rfl #[.agg #[.int .i64 a0_0, .int .i64 a0_1, .slice A0_2 l0_2.length c0_2]] rfl (by (try simp only [List.map_toArray, List.map_cons, List.map_nil]); first | done | rfl | (simp only [List.length_drop, List.length_take]; rfl)) ?_; (with_reducible refine (impl_ValidMatrix.calls k a0_0 a0_1 _ _ l0_2 true _ ?side1 ?side2 A4.out).mono ?_); (case side1 => repeat (first | exact (Kd.C_below HR0_2.out HB.out) | (with_reducible refine Kd.C_alloc ?_ _) | (with_reducible refine Kd.C_drewN ?_ _) | (with_reducible refine Kd.C_drew ?_))); (case side2 => exact HC0_2.out); rintro e w11 ⟨rfl, hb⟩; refine ⟨_, rfl, ?_⟩; have n0_ := Aside0.mk (blk_below (g := gb442) (o := .cells #[.int .i64 a0_0, .int .i64 a0_1, .slice A0_2 l0_2.length c0_2] 26 (0, 0)) (by (with_reducible repeat (first | refine blk_drewN ?_ _ | refine blk_drew ?_ | refine blk_alloc ?_ _)); exact BK442.out) hb); have n1_ := Aside0.mk (below_step (by repeat (first | (with_reducible first | exact HB.out | apply below_alloc | apply pw_below_drewN | apply below_drew1 | refine below_set ?_ GE442.out) | exact HB.out)) hb); clear BK442; clear HB; have BK442 := n0_; have HB := n1_; clear n0_ n1_; (try clear hb); (try clear hb2); (try clear hk); (try clear hi); have hcz12_0 : w11.cell? ⟨gb442, 0, none⟩ = some (.int .i64 a0_0) := (blk_cell BK442.out 0).trans rfl; have hcz12_1 : w11.cell? ⟨gb442, 1, none⟩ = some (.int .i64 a0_1) := (blk_cell BK442.out 1).trans rfl; have hcz12_2 : w11.cell? ⟨gb442, 2, none⟩ = some (.slice A0_2 l0_2.length c0_2) := (blk_cell BK442.out 2).trans rfl; have hfz12_0 := blk_frozen BK442.out 0; have hfz12_1 := blk_frozen BK442.out 1; have hfz12_2 := blk_frozen BK442.out 2) | (go_at_call 95; (with_reducible refine (impl_areElements.calls k a0_0 _ _ l1 true _ ?side1 ?side2 A7.out).mono ?_); (case side1 => repeat (first | exact (Kd.C_below HR1.out HB.out) | (with_reducible refine Kd.C_alloc ?_ _) | (with_reducible refine Kd.C_drewN ?_ _) | (with_reducible refine Kd.C_drew ?_))); (case side2 => exact HC1.out); rintro e w13 ⟨rfl, hb⟩; have n0_ := Aside0.mk (blk_below (g := gb442) (o := .cells #[.int .i64 a0_0, .int .i64 a0_1, .slice A0_2 l0_2.length c0_2] 26 (0, 0)) (by (with_reducible repeat (first | refine blk_drewN ?_ _ | refine blk_drew ?_ | refine blk_alloc ?_ _)); exact BK442.out) hb); have n1_ := Aside0.mk (below_step (by repeat (first | (with_reducible first | exact HB.out | apply below_alloc | apply pw_below_drewN | apply below_drew1 | refine below_set ?_ GE442.out) | exact HB.out)) hb); clear BK442; clear HB; have BK442 := n0_; have HB := n1_; clear n0_ n1_; (try clear hb); (try clear hb2); (try clear hk); (try clear hi)))
        go_ret
        exact ⟨by first | rfl | (simp [errW_none, errW_some] <;> rfl) | (simp [*, errW_none, errW_some] <;> rfl), by repeat (first | (with_reducible first | exact HB.out | apply below_alloc | apply pw_below_drewN | apply below_drew1 | refine below_set ?_ GE442.out) | exact HB.out)⟩
      · replace c8 := Bool.eq_false_iff.mpr c8
        subst c8
        have H1 : (some 2) = some r := by rw [if_neg (show ¬ (false = true) by decide)] at H; exact H
        clear H
        have H := H1
        clear H1
        obtain rfl := Option.some.inj H
        go_enter Try.func74, Try.ntmps74
        go_wp2_with (first | ((with_reducible refine gate_dst (N := 3) rfl ?_); refine box_event ?hg (N := 3) ?hd (cs := #[.int .i64 a0_0, .int .i64 a0_1, .slice A0_2 l0_2.length c0_2]) (t := 26) ?hr ?_; (case hd => rfl); (case hg => rfl); (case hr => first | (go_simp; done) | (go_simp; rfl)); intro gb442 hg w14 hbox hb; have n0_ := Aside0.mk (below_step (by repeat (first | (with_reducible first | exact HB.out | apply below_alloc | apply pw_below_drewN | apply below_drew1) | exact HB.out)) hb); have n1_ := Aside0.mk (hbox); have n2_ := Aside0.mk ((by rw [hg]; exact (below_size (by repeat (first | (with_reducible first | exact HB.out | apply below_alloc | apply pw_below_drewN | apply below_drew1) | exact HB.out))) : w.heap.size ≤ gb442)); have n3_ := Aside0.mk ((by rw [hg]; exact (below_size (by repeat (first | (with_reducible first | exact HB.out | apply below_alloc | apply pw_below_drewN | apply below_drew1) | exact HB.out))) : w.heap.size ≤ gb442)); clear HB; have HB := n0_; have BK442 := n1_; have GW442 := n2_; have GE442 := n3_; clear n0_ n1_ n2_ n3_; clear hb hbox hg; have hcz15_0 : w14.cell? ⟨gb442, 0, none⟩ = some (.int .i64 a0_0) := (blk_cell BK442.out 0).trans rfl; have hcz15_1 : w14.cell? ⟨gb442, 1, none⟩ = some (.int .i64 a0_1) := (blk_cell BK442.out 1).trans rfl; have hcz15_2 : w14.cell? ⟨gb442, 2, none⟩ = some (.slice A0_2 l0_2.length c0_2) := (blk_cell BK442.out 2).trans rfl; have hfz15_0 := blk_frozen BK442.out 0; have hfz15_1 := blk_frozen BK442.out 1; have hfz15_2 := blk_frozen BK442.out 2) | ((with_reducible refine gate_callee (f := 50) rfl ?_); refine goesL_ (some 9) rfl rfl Try.func50 (by kernel_rfl) rfl #[.agg #[.int .i64 a0_0, .int .i64 a0_1, .slice A0_2 l0_2.length c0_2]] rfl (by (try simp only [List.map_toArray, List.map_cons, List.map_nil]); first | done | rfl | (simp only [List.length_drop, List.length_take]; rfl)) ?_; (with_reducible refine (impl_ValidMatrix.calls k a0_0 a0_1 _ _ l0_2 true _ ?side1 ?side2 A4.out).mono ?_); (case side1 => repeat (first | exact (Kd.C_below HR0_2.out HB.out) | (with_reducible refine Kd.C_alloc ?_ _) | (with_reducible refine Kd.C_drewN ?_ _) | (with_reducible refine Kd.C_drew ?_))); (case side2 => exact HC0_2.out); rintro e w16 ⟨rfl, hb⟩; refine ⟨_, rfl, ?_⟩; have n0_ := Aside0.mk (blk_below (g := gb442) (o := .cells #[.int .i64 a0_0, .int .i64 a0_1, .slice A0_2 l0_2.length c0_2] 26 (0, 0)) (by (with_reducible repeat (first | refine blk_drewN ?_ _ | refine blk_drew ?_ | refine blk_alloc ?_ _)); exact BK442.out) hb); have n1_ := Aside0.mk (below_step (by repeat (first | (with_reducible first | exact HB.out | apply below_alloc | apply pw_below_drewN | apply below_drew1 | refine below_set ?_ GE442.out) | exact HB.out)) hb); clear BK442; clear HB; have BK442 := n0_; have HB := n1_; clear n0_ n1_; (try clear hb); (try clear hb2); (try clear hk); (try clear hi); have hcz17_0 : w16.cell? ⟨gb442, 0, none⟩ = some (.int .i64 a0_0) := (blk_cell BK442.out 0).trans rfl; have hcz17_1 : w16.cell? ⟨gb442, 1, none⟩ = some (.int .i64 a0_1) := (blk_cell BK442.out 1).trans rfl; have hcz17_2 : w16.cell? ⟨gb442, 2, none⟩ = some (.slice A0_2 l0_2.length c0_2) := (blk_cell BK442.out 2).trans rfl; have hfz17_0 := blk_frozen BK442.out 0; have hfz17_1 := blk_frozen BK442.out 1; have hfz17_2 := blk_frozen BK442.out 2) | (go_at_call 95; (with_reducible refine (impl_areElements.calls k a0_0 _ _ l1 false _ ?side1 ?side2 A7.out).mono ?_); (case side1 => repeat (first | exact (Kd.C_below HR1.out HB.out) | (with_reducible refine Kd.C_alloc ?_ _) | (with_reducible refine Kd.C_drewN ?_ _) | (with_reducible refine Kd.C_drew ?_))); (case side2 => exact HC1.out); rintro e w18 ⟨rfl, hb⟩; have n0_ := Aside0.mk (blk_below (g := gb442) (o := .cells #[.int .i64 a0_0, .int .i64 a0_1, .slice A0_2 l0_2.length c0_2] 26 (0, 0)) (by (with_reducible repeat (first | refine blk_drewN ?_ _ | refine blk_drew ?_ | refine blk_alloc ?_ _)); exact BK442.out) hb); have n1_ := Aside0.mk (below_step (by repeat (first | (with_reducible first | exact HB.out | apply below_alloc | apply pw_below_drewN | apply below_drew1 | refine below_set ?_ GE442.out) | exact HB.out)) hb); clear BK442; clear HB; have BK442 := n0_; have HB := n1_; clear n0_ n1_; (try clear hb); (try clear hb2); (try clear hk); (try clear hi)))
        go_ret
        exact ⟨by first | rfl | (simp [errW_none, errW_some] <;> rfl) | (simp [*, errW_none, errW_some] <;> rfl), by repeat (first | (with_reducible first | exact HB.out | apply below_alloc | apply pw_below_drewN | apply below_drew1 | refine below_set ?_ GE442.out) | exact HB.out)⟩
    · rw [if_neg c6] at H
      have c6b0 : ((l1.length : Int) == a2) = false := beq_eq_false_iff_ne.mpr c6
      have c6b1 : ((l1.length : Int) != a2) = true := bne_iff_ne.mpr c6
      obtain rfl := Option.some.inj H
      go_enter Try.func74, Try.ntmps74
      go_wp2_with (first | ((with_reducible refine gate_dst (N := 3) rfl ?_); refine box_event ?hg (N := 3) ?hd (cs := #[.int .i64 a0_0, .int .i64 a0_1, .slice A0_2 l0_2.length c0_2]) (t := 26) ?hr ?_; (case hd => rfl); (case hg => rfl); (case hr => first | (go_simp; done) | (go_simp; rfl)); intro gb442 hg w19 hbox hb; have n0_ := Aside0.mk (below_step (by repeat (first | (with_reducible first | exact HB.out | apply below_alloc | apply pw_below_drewN | apply below_drew1) | exact HB.out)) hb); have n1_ := Aside0.mk (hbox); have n2_ := Aside0.mk ((by rw [hg]; exact (below_size (by repeat (first | (with_reducible first | exact HB.out | apply below_alloc | apply pw_below_drewN | apply below_drew1) | exact HB.out))) : w.heap.size ≤ gb442)); have n3_ := Aside0.mk ((by rw [hg]; exact (below_size (by repeat (first | (with_reducible first | exact HB.out | apply below_alloc | apply pw_below_drewN | apply below_drew1) | exact HB.out))) : w.heap.size ≤ gb442)); clear HB; have HB := n0_; have BK442 := n1_; have GW442 := n2_; have GE442 := n3_; clear n0_ n1_ n2_ n3_; clear hb hbox hg; have hcz20_0 : w19.cell? ⟨gb442, 0, none⟩ = some (.int .i64 a0_0) := (blk_cell BK442.out 0).trans rfl; have hcz20_1 : w19.cell? ⟨gb442, 1, none⟩ = some (.int .i64 a0_1) := (blk_cell BK442.out 1).trans rfl; have hcz20_2 : w19.cell? ⟨gb442, 2, none⟩ = some (.slice A0_2 l0_2.length c0_2) := (blk_cell BK442.out 2).trans rfl; have hfz20_0 := blk_frozen BK442.out 0; have hfz20_1 := blk_frozen BK442.out 1; have hfz20_2 := blk_frozen BK442.out 2) | ((with_reducible refine gate_callee (f := 50) rfl ?_); refine goesL_ (some 9) rfl rfl Try.func50 (by kernel_rfl) rfl #[.agg #[.int .i64 a0_0, .int .i64 a0_1, .slice A0_2 l0_2.length c0_2]] rfl (by (try simp only [List.map_toArray, List.map_cons, List.map_nil]); first | done | rfl | (simp only [List.length_drop, List.length_take]; rfl)) ?_; (with_reducible refine (impl_ValidMatrix.calls k a0_0 a0_1 _ _ l0_2 true _ ?side1 ?side2 A4.out).mono ?_); (case side1 => repeat (first | exact (Kd.C_below HR0_2.out HB.out) | (with_reducible refine Kd.C_alloc ?_ _) | (with_reducible refine Kd.C_drewN ?_ _) | (with_reducible refine Kd.C_drew ?_))); (case side2 => exact HC0_2.out); rintro e w21 ⟨rfl, hb⟩; refine ⟨_, rfl, ?_⟩; have n0_ := Aside0.mk (blk_below (g := gb442) (o := .cells #[.int .i64 a0_0, .int .i64 a0_1, .slice A0_2 l0_2.length c0_2] 26 (0, 0)) (by (with_reducible repeat (first | refine blk_drewN ?_ _ | refine blk_drew ?_ | refine blk_alloc ?_ _)); exact BK442.out) hb); have n1_ := Aside0.mk (below_step (by repeat (first | (with_reducible first | exact HB.out | apply below_alloc | apply pw_below_drewN | apply below_drew1 | refine below_set ?_ GE442.out) | exact HB.out)) hb); clear BK442; clear HB; have BK442 := n0_; have HB := n1_; clear n0_ n1_; (try clear hb); (try clear hb2); (try clear hk); (try clear hi)))
      go_ret
      exact ⟨by first | rfl | (simp [errW_none, errW_some] <;> rfl) | (simp [*, errW_none, errW_some] <;> rfl), by repeat (first | (with_reducible first | exact HB.out | apply below_alloc | apply pw_below_drewN | apply below_drew1 | refine below_set ?_ GE442.out) | exact HB.out)⟩
  · replace c5 := Bool.eq_false_iff.mpr c5
    subst c5
    have H1 : (some 1) = some r := by rw [if_neg (show ¬ (false = true) by decide)] at H; exact H
    clear H
    have H := H1
    clear H1
    obtain rfl := Option.some.inj H
    go_enter Try.func74, Try.ntmps74
    go_wp2_with (first | ((with_reducible refine gate_dst (N := 3) rfl ?_); refine box_event ?hg (N := 3) ?hd (cs := #[.int .i64 a0_0, .int .i64 a0_1, .slice A0_2 l0_2.length c0_2]) (t := 26) ?hr ?_; (case hd => rfl); (case hg => rfl); (case hr => first | (go_simp; done) | (go_simp; rfl)); intro gb442 hg w22 hbox hb; have n0_ := Aside0.mk (below_step (by repeat (first | (with_reducible first | exact HB.out | apply below_alloc | apply pw_below_drewN | apply below_drew1) | exact HB.out)) hb); have n1_ := Aside0.mk (hbox); have n2_ := Aside0.mk ((by rw [hg]; exact (below_size (by repeat (first | (with_reducible first | exact HB.out | apply below_alloc | apply pw_below_drewN | apply below_drew1) | exact HB.out))) : w.heap.size ≤ gb442)); have n3_ := Aside0.mk ((by rw [hg]; exact (below_size (by repeat (first | (with_reducible first | exact HB.out | apply below_alloc | apply pw_below_drewN | apply below_drew1) | exact HB.out))) : w.heap.size ≤ gb442)); clear HB; have HB := n0_; have BK442 := n1_; have GW442 := n2_; have GE442 := n3_; clear n0_ n1_ n2_ n3_; clear hb hbox hg; have hcz23_0 : w22.cell? ⟨gb442, 0, none⟩ = some (.int .i64 a0_0) := (blk_cell BK442.out 0).trans rfl; have hcz23_1 : w22.cell? ⟨gb442, 1, none⟩ = some (.int .i64 a0_1) := (blk_cell BK442.out 1).trans rfl; have hcz23_2 : w22.cell? ⟨gb442, 2, none⟩ = some (.slice A0_2 l0_2.length c0_2) := (blk_cell BK442.out 2).trans rfl; have hfz23_0 := blk_frozen BK442.out 0; have hfz23_1 := blk_frozen BK442.out 1; have hfz23_2 := blk_frozen BK442.out 2) | ((with_reducible refine gate_callee (f := 50) rfl ?_); refine goesL_ (some 9) rfl rfl Try.func50 (by kernel_rfl) rfl #[.agg #[.int .i64 a0_0, .int .i64 a0_1, .slice A0_2 l0_2.length c0_2]] rfl (by (try simp only [List.map_toArray, List.map_cons, List.map_nil]); first | done | rfl | (simp only [List.length_drop, List.length_take]; rfl)) ?_; (with_reducible refine (impl_ValidMatrix.calls k a0_0 a0_1 _ _ l0_2 false _ ?side1 ?side2 A4.out).mono ?_); (case side1 => repeat (first | exact (Kd.C_below HR0_2.out HB.out) | (with_reducible refine Kd.C_alloc ?_ _) | (with_reducible refine Kd.C_drewN ?_ _) | (with_reducible refine Kd.C_drew ?_))); (case side2 => exact HC0_2.out); rintro e w24 ⟨rfl, hb⟩; refine ⟨_, rfl, ?_⟩; have n0_ := Aside0.mk (blk_below (g := gb442) (o := .cells #[.int .i64 a0_0, .int .i64 a0_1, .slice A0_2 l0_2.length c0_2] 26 (0, 0)) (by (with_reducible repeat (first | refine blk_drewN ?_ _ | refine blk_drew ?_ | refine blk_alloc ?_ _)); exact BK442.out) hb); have n1_ := Aside0.mk (below_step (by repeat (first | (with_reducible first | exact HB.out | apply below_alloc | apply pw_below_drewN | apply below_drew1 | refine below_set ?_ GE442.out) | exact HB.out)) hb); clear BK442; clear HB; have BK442 := n0_; have HB := n1_; clear n0_ n1_; (try clear hb); (try clear hb2); (try clear hk); (try clear hi)))
    go_ret
    exact ⟨by first | rfl | (simp [errW_none, errW_some] <;> rfl) | (simp [*, errW_none, errW_some] <;> rfl), by repeat (first | (with_reducible first | exact HB.out | apply below_alloc | apply pw_below_drewN | apply below_drew1 | refine below_set ?_ GE442.out) | exact HB.out)⟩

end Go.Proofs.Ytjpbemomocccaaa.P

namespace Go.Proofs.Ytjpbemomocccaaa.P
open Go.RowKit Go.Proofs.YtjpbemomocccaaaW.PrintWords Go.Proofs.YtjpbemomocccaaaW.PrintLast Go.Proofs.YtjpbemomocccaaaW.PrintMore
attribute [local go_sem] max2_int min2_int max_two min_two max_three min_three max_four min_four
set_option linter.unusedVariables false
set_option linter.unusedSimpArgs false

/-! ### impl_first: function 102 (by hand) -/
/-- The closure of first: is x not 0? -/
def impl_first_p (x : Int) : Option Bool := some (x != 0)
def impl_first.f (k : Nat) (l0 : List Int) : Option Int := idxI.l0 k impl_first_p l0 0
set_option maxHeartbeats 8000000 in
set_option maxRecDepth 100000 in
theorem impl_first_p.calls (x : Int) (b : Bool) (W : World) (h : impl_first_p x = some b) :
    Calls Try.prog 115 #[.int .i64 x] W fun e w' => e = .returned (.bool b) ∧ Drawn0 W w' := by
  unfold impl_first_p at h
  obtain rfl := Option.some.inj h
  clear h
  go_enter Try.func115, Try.ntmps115
  go_wp2
  go_ret
  exact ⟨rfl, by repeat (first | exact Drawn0.refl _ | apply Drawn0.step)⟩
set_option maxHeartbeats 8000000 in
set_option maxRecDepth 100000 in
theorem impl_first.calls (k : Nat) (A0 : Option Addr) (c0 : Nat) (l0 : List Int) (r : Int) (w : World) (hr0 : Kd.C (Kd.int .i64) w A0 l0.length l0) (hc0 : l0.length ≤ c0) (h : impl_first.f k l0 = some r) :
    Calls Try.prog 102 #[.slice A0 l0.length c0] w fun e w' => e = .returned (.int .i64 r) ∧ Below w.heap.size w w' := by
  have HR1 := Aside0.mk hr0
  clear hr0 hc0
  unfold impl_first.f at h
  have A4 := Aside0.mk h
  clear h
  have eg : ∀ (args : Array Value) (w : World), (callFunc 115 args).run Try.prog w = .ok (.enter 115 args) w := enters_of Try.func115 (by kernel_rfl) rfl
  go_enter Try.func102, Try.ntmps102
  go_wp2_with (first | (go_at_call 114; (with_reducible refine (idxI.calls k impl_first_p 115 #[] eg A0 c0 l0 r _ ?side1 ?side2 A4.out).mono ?_); (case side1 => repeat (first | exact HR1.out | (with_reducible refine Kd.C_alloc ?_ _) | (with_reducible refine Kd.C_drewN ?_ _) | (with_reducible refine Kd.C_drew ?_))); (case side2 => exact fun W x b hx hb => (impl_first_p.calls x b W hx).mono (fun e w' ⟨he, hd⟩ => ⟨he, below_drawn hb hd⟩)); rintro e w' ⟨rfl, hb⟩))
  go_ret
  exact ⟨rfl, below_step (by repeat (first | exact Below.refl _ _ | apply below_alloc | apply pw_below_drewN | apply below_drew1)) hb⟩

end Go.Proofs.Ytjpbemomocccaaa.P

namespace Go.Proofs.Ytjpbemomocccaaa.P
open Go.RowKit Go.Proofs.YtjpbemomocccaaaW.PrintWords Go.Proofs.YtjpbemomocccaaaW.PrintLast Go.Proofs.YtjpbemomocccaaaW.PrintMore
attribute [local go_sem] max2_int min2_int max_two min_two max_three min_three max_four min_four
set_option linter.unusedVariables false
set_option linter.unusedSimpArgs false

/-! ### slices_Clone_int64_int64: function 64 (by hand) -/
theorem nil_of_C {α : Type} {d : Kd α} {w : World} {l : List α} (h : Kd.C d w none l.length l) : l = [] := by
  cases l with
  | nil => rfl
  | cons a l =>
    obtain ⟨ad, he, _⟩ := h.2.2 (by simp)
    cases he
/-- slices.Clone of a list. -/
def slices_Clone_int64_int64.f (l0 : List Int) : Option (List Int) := if l0.length < 17592186044416 then some l0 else none
set_option maxHeartbeats 8000000 in
set_option maxRecDepth 100000 in
theorem slices_Clone_int64_int64.calls (A0 : Option Addr) (c0 : Nat) (l0 : List Int) (r : List Int) (w : World) (hr0 : Kd.C (Kd.int .i64) w A0 l0.length l0) (hc0 : l0.length ≤ c0) (h : slices_Clone_int64_int64.f l0 = some r) :
    Calls Try.prog 64 #[.slice A0 l0.length c0] w fun e w' => ∃ v0_ : Value, e = .returned v0_ ∧ Kd.R (Kd.int .i64) 2 w' w.heap.size (fun _ => True) v0_ r ∧ Below w.heap.size w w' := by
  have hus := Try.underlying35
  have hu2 := Try.underlying2
  have HR0 := Aside0.mk hr0
  have HC0 := Aside0.mk hc0
  have HB := Aside0.mk (Below.refl w.heap.size w)
  unfold slices_Clone_int64_int64.f at h
  by_cases c4 : l0.length < 17592186044416
  · rw [if_pos c4] at h
    obtain rfl := Option.some.inj h
    have LM := Aside0.mk c4
    clear c4 h hr0 hc0
    obtain ⟨y3, hy3⟩ : ∃ y_ : List Int, y_ = ([] : List Int) := ⟨_, rfl⟩
    have Ny3 := Aside0.mk hy3
    clear hy3
    have hq : ∀ (a : Option Addr) (n c : Nat) (w : World), (binOp .eql 35 (.slice a n c) (.slice none 0 0)).run Try.prog w = .ok (.bool a.isNone) w := fun a n c w => Go.Lib.run_eql_slice_nil w _ _ a n c 0 0 hus
    cases A0 with
    | none =>
      have hn : l0 = [] := nil_of_C HR0.out
      subst hn
      go_enter Try.func64, Try.ntmps64
      go_wp2
      go_ret
      exact ⟨_, rfl, Kd.R_nil _ _ _ _ _, HB.out⟩
    | some a =>
      go_enter Try.func64, Try.ntmps64
      go_wp2_with (first | ((with_reducible refine gate_dst (N := 5) rfl ?_); refine Kd.R_lit (Kd.int .i64) _ 2 ?hg (N := 5) ?hd (xs := ([] : List Int)) (inner := []) (ok := fun _ => True) (okp := fun _ => True) ?hr ?hp (fun _ hk => hk) trivial (Below.refl _ _) (Nat.le_refl _) (by simp) ?_; (case hd => rfl); (case hg => rfl); (case hr => first | (go_simp; done) | (go_simp; rfl)); (case hp => exact (Reps.none _ _)); intro v4 w5 ho6 hb hg_ hnew_; clear hg_ hnew_; (first | rw [← Ny3.out] at ho6 | (simp only [Int.reduceToNat] at ho6; rw [← Ny3.out] at ho6)); have n0_ := Aside0.mk (Kd.R_lower ho6 (below_size (by repeat (first | (with_reducible first | exact HB.out | apply below_alloc | apply pw_below_drewN | apply below_drew1) | exact HB.out)))); have n2_ := Aside0.mk (below_step (by repeat (first | (with_reducible first | exact HB.out | apply below_alloc | apply pw_below_drewN | apply below_drew1) | exact HB.out)) hb); clear HB; have HO3 := n0_; have HB := n2_; clear n0_ n2_; clear hb ho6) | ((with_reducible refine gate_builtin (b := .append) (xs := #[.tmp 5, .tmp 6]) rfl ?_); at_builtin; refine Kd.R_append_rows (Kd.int .i64) (w0 := w) w.heap.size rfl (.tmp 5) (.tmp 6) 35 2 (.int .i64 0) 8 rfl Try.underlying35 info2 rfl (by decide) (by omega) v4 y3 l0 _ _ _ (fun _ => True) (fun _ => False) rfl rfl ?aO ?aR (fun _ _ h => h) (fun _ h => h.elim) ?aF ?aB ?aS ?aL ?_; (case aR => repeat (first | exact (Kd.C_below HR0.out HB.out) | (with_reducible refine Kd.C_alloc ?_ _) | (with_reducible refine Kd.C_drewN ?_ _) | (with_reducible refine Kd.C_drew ?_))); (case aB => exact (by repeat (first | (with_reducible first | exact HB.out | apply below_alloc | apply pw_below_drewN | apply below_drew1) | exact HB.out))); (case aF => exact (fun _ _ => trivial)); (case aO => exact (by (with_reducible repeat (first | apply Kd.R_alloc | apply Kd.R_drewN | apply Kd.R_drew)); exact HO3.out)); (case aS => exact (below_size (by repeat (first | (with_reducible first | exact HB.out | apply below_alloc | apply pw_below_drewN | apply below_drew1) | exact HB.out)))); (case aL => have := LM.out; have := Ny3.out; subst this; simp; omega); intro v7 w7 ho hb hg hat; rw [Ny3.out, List.nil_append] at ho; have n1_ := Aside0.mk hb; have n2_ := Aside0.mk ho; clear HB HO3; have HB := n1_; have HO7 := n2_; clear n1_ n2_; clear ho hb hg hat))
      go_ret
      exact ⟨_, rfl, by (with_reducible repeat (first | apply Kd.R_alloc | apply Kd.R_drewN | apply Kd.R_drew)); exact HO7.out, by repeat (first | (with_reducible first | exact HB.out | apply below_alloc | apply pw_below_drewN | apply below_drew1) | exact HB.out)⟩
  · rw [if_neg c4] at h
    exact absurd h (by simp)

end Go.Proofs.Ytjpbemomocccaaa.P

namespace Go.Proofs.Ytjpbemomocccaaa.P
open Go.RowKit Go.Proofs.YtjpbemomocccaaaW.PrintWords Go.Proofs.YtjpbemomocccaaaW.PrintLast Go.Proofs.YtjpbemomocccaaaW.PrintMore
attribute [local go_sem] max2_int min2_int max_two min_two max_three min_three max_four min_four
set_option linter.unusedVariables false
set_option linter.unusedSimpArgs false

/-! ### impl_scaled: function 69 -/
def impl_scaled.l0 : Nat → Int → List Int → Int → Int → Int → Option (List Int)
  | 0, _, _, _, _, _ => none
  | k + 1, x0, x1, x2, x8, x9 => if x9 < x8 then (if 0 ≤ x9 then (if x9 < (x1.length : Int) then (if x0 = 0 then (none) else (impl_scaled.l0 k x0 (x1.set (x9 : Int).toNat (Int.tmod (wrap64 ((rd x1 x9) * x2)) x0)) x2 x8 (wrap64 (x9 + 1)))) else (none)) else (none)) else (some x1)
def impl_scaled.f (k : Nat) (a0 : Int) (l1 : List Int) (a2 : Int) : Option (List Int) := impl_scaled.l0 k a0 l1 a2 (l1.length : Int) 0
set_option maxHeartbeats 8000000 in
set_option maxRecDepth 100000 in
theorem impl_scaled.calls (k : Nat) (a0 : Int) (P1_ : Nat → Prop) (u9000_ : Value) (l1 : List Int) (a2 : Int) (r : List Int) (w0 w : World) (hB : Below w0.heap.size w0 w) (ho1 : Kd.R (Kd.int .i64) 2 w w0.heap.size P1_ u9000_ l1) (h : impl_scaled.f k a0 l1 a2 = some r) :
    Calls Try.prog 69 #[.int .i64 a0, u9000_, .int .i64 a2] w fun e w' => e = .returned (.tuple #[]) ∧ Kd.R (Kd.int .i64) 2 w' w0.heap.size (fun k_ => (P1_ k_ ∨ w.heap.size ≤ k_)) u9000_ r ∧ Below w0.heap.size w0 w' ∧ Kept w w' (fun k_ => P1_ k_) := by
  have HO1 := Aside0.mk (show Kd.R (Kd.int .i64) 2 w w0.heap.size (fun k_ => (P1_ k_ ∨ w.heap.size ≤ k_)) u9000_ l1 from Kd.R_mono ho1 (fun k_ hk => (.inl hk)))
  have HK := Aside0.mk (Kept.refl w (fun k_ => P1_ k_))
  have HW0 := Aside0.mk hB.size
  have HB := Aside0.mk hB
  clear hB
  have H : (impl_scaled.l0 k a0 l1 a2 (l1.length : Int) 0) = some r := h
  clear h
  have H' := Aside0.mk H
  clear H
  obtain ⟨Ao4, co4, eo4⟩ := Kd.R_slice HO1.out
  subst eo4
  go_enter Try.func69, Try.ntmps69
  go_wp2
  go_loopg [9] k (fun kq v9 w' => ∃ (x1_1 : List Int) (x9_1 : Int), v9 = .int .i64 x9_1 ∧ Aside0 (impl_scaled.l0 kq a0 x1_1 a2 (l1.length : Int) x9_1 = some r) ∧ Aside0 (kq ≤ k) ∧ Aside0 (Kd.R (Kd.int .i64) 2 w' w0.heap.size (fun k_ => (P1_ k_ ∨ w.heap.size ≤ k_)) (.slice Ao4 l1.length co4) x1_1) ∧ Aside0 (Kept w w' (fun k_ => P1_ k_)) ∧ Aside0 (Below w0.heap.size w0 w'))
  case atStart => exact ⟨(l1), (0), (by first | rfl | (simp; done) | (simp [*]; done)), H', ⟨Nat.le_refl _⟩, ⟨by (with_reducible repeat (first | apply Kd.R_alloc | apply Kd.R_drewN | apply Kd.R_drew)); exact HO1.out⟩, ⟨by repeat (first | (with_reducible first | exact HK.out | apply Kept.alloc | apply Kept.drewN | apply Kept.drew) | exact HK.out)⟩, ⟨by repeat (first | (with_reducible first | exact HB.out | apply below_alloc | apply pw_below_drewN | apply below_drew1) | exact HB.out)⟩⟩
  case round =>
    clear H'
    try clear p2
    obtain ⟨x1_1, x9_1, rfl, HA, HK1, HO_1, HK, HB⟩ := hrel
    have hl1_1 := (Kd.R_reads' HO_1.out).1
    rw [hl1_1] at HO_1
    (try simp only [hl1_1])
    cases gk with
    | zero => exact absurd HA.out (by simp [impl_scaled.l0])
    | succ k1 =>
      have H := HA.out
      clear HA
      simp only [impl_scaled.l0] at H
      by_cases c5 : x9_1 < (l1.length : Int)
      · rw [if_pos c5] at H
        have c5b0 : decide (x9_1 < (l1.length : Int)) = true := decide_eq_true c5
        clear c5
        by_cases c6 : 0 ≤ x9_1
        · rw [if_pos c6] at H
          have c6b0 : decide (0 ≤ x9_1) = true := decide_eq_true c6
          clear c6
          by_cases c7 : x9_1 < (x1_1.length : Int)
          · rw [if_pos c7] at H
            have c7b0 : decide (x9_1 < (x1_1.length : Int)) = true := decide_eq_true c7
            clear c7
            by_cases c8 : a0 = 0
            · rw [if_pos c8] at H
              exact absurd H (by simp)
            · rw [if_neg c8] at H
              have c8b0 : (a0 == 0) = false := beq_eq_false_iff_ne.mpr c8
              have c8b1 : (a0 != 0) = true := bne_iff_ne.mpr c8
              obtain ⟨y178, hy178⟩ : ∃ y_ : List Int, y_ = (x1_1.set (x9_1 : Int).toNat (Int.tmod (wrap64 ((rd x1_1 x9_1) * a2)) a0)) := ⟨_, rfl⟩
              replace H : (impl_scaled.l0 k1 a0 y178 a2 (l1.length : Int) (wrap64 (x9_1 + 1))) = some r := by first | (rw [hy178]; with_reducible exact H) | (have H2_ := (Option.bind_some _ _).symm.trans H; rw [hy178]; with_reducible exact H2_) | (have H2_ := (Option.bind_some _ _).symm.trans H; with_reducible exact H2_) | with_reducible exact H | (rw [hy178]; exact H) | exact H
              have Ny178 := Aside0.mk hy178
              clear hy178
              have H' := Aside0.mk H
              clear H
              have p177 : 0 ≤ (x9_1 : Int) := of_decide_eq_true (by first | (with_reducible assumption) | assumption)
              have q177 : x9_1 < (x1_1.length : Int) := of_decide_eq_true (by first | (with_reducible assumption) | assumption)
              obtain ⟨ad177, e177, hx177_0⟩ := Kd.at_int (Kd.R_reads' HO_1.out).2.2 x9_1 p177 q177
              cases e177
              replace p177 := eq_true p177
              replace q177 := eq_true q177
              have p9 : 0 ≤ (x9_1 : Int) := of_decide_eq_true (by first | (with_reducible assumption) | assumption)
              have q9 : (x9_1 : Int) < ((x1_1.length : Int) : Int) := of_decide_eq_true (by first | (with_reducible assumption) | assumption)
              obtain ⟨go9, co9, eo9, gb9, gl9, cl9, HG9⟩ := Kd.R_form HO_1.out (by omega)
              (first | cases eo9 | (injection eo9 with ea_ en_ ec_; (first | subst ea_ | (injection ea_ with ea_; subst ea_)); subst ec_; clear en_))
              have GB9 := Aside0.mk gb9
              have GG9 := Aside0.mk HG9
              clear gb9 gl9 HG9
              have HMgo9 := Aside0.mk (show (P1_ go9 ∨ w.heap.size ≤ go9) from (HO_1.out.1 _ rfl))
              (first | simp only [add_plain] at hx177_0 | skip)
              obtain ⟨hx9_0, hf9_0⟩ := Kd.R_celln 0 HO_1.out (x9_1 : Int) p9 q9
              replace p9 := eq_true p9
              replace q9 := eq_true q9
              have HP10 := Kd.R_putg HO_1.out (x9_1 : Int) (Int.tmod (wrap64 ((rd x1_1 x9_1) * a2)) a0)
              go_wp2_with (first | ((with_reducible refine gate_store (t := 2) (p := 22) rfl ?_); refine store_event (t := 2) (p := 22) (v := ?vo_w11) (w1 := (wr.setCell ⟨go9, (x9_1 : Int).toNat, none⟩ (.int .i64 (Int.tmod (wrap64 ((rd x1_1 x9_1) * a2)) a0)))) ?hg ?ho ?hn ?hr ?_; (case ho => rfl); (case hg => rfl); (case hn => rfl); (case hr => first | (go_simp; done) | (go_simp; rfl)); intro w11 hw; have hg : wr.grownBy w11 (some go9) := (by rw [hw]; exact HP10.2); have hp_ : Kd.R (Kd.int .i64) 2 w11 w0.heap.size (fun k_ => (P1_ k_ ∨ w.heap.size ≤ k_)) (.slice (some ⟨go9, 0, none⟩) x1_1.length co4) y178 := (by rw [hw, Ny178.out]; exact HP10.1); clear HP10; have n0_ := Aside0.mk (hp_); have n1_ := Aside0.mk ((by rw [hw]; exact below_set (HB.out) GB9.out : Below w0.heap.size w0 w11)); have n2_ := Aside0.mk (Kept.of_grown (S := (fun k_ => P1_ k_)) hg (by repeat (first | (with_reducible first | exact HK.out | apply Kept.alloc | apply Kept.drewN | apply Kept.drew) | exact HK.out)) (fun k_ e_ => (HO_1.out.1 k_ e_))); clear HO_1; clear HB; clear HK; have HO_1 := n0_; have HB := n1_; have HK := n2_; clear n0_ n1_ n2_; clear hg hw hp_))
              (try simp only [← hl1_1])
              go_roundg k1
              case measure => have := HK1.out; omega
              case rel => exact ⟨(y178), (wrap64 (x9_1 + 1)), (by first | rfl | (simp; done) | (simp [*]; done)), H', ⟨by have := HK1.out; omega⟩, ⟨by (try simp only [hl1_1]); (with_reducible repeat (first | apply Kd.R_alloc | apply Kd.R_drewN | apply Kd.R_drew)); exact HO_1.out⟩, ⟨by repeat (first | (with_reducible first | exact HK.out | apply Kept.alloc | apply Kept.drewN | apply Kept.drew) | exact HK.out)⟩, ⟨by repeat (first | (with_reducible first | exact HB.out | apply below_alloc | apply pw_below_drewN | apply below_drew1) | exact HB.out)⟩⟩
          · rw [if_neg c7] at H
            exact absurd H (by simp)
        · rw [if_neg c6] at H
          exact absurd H (by simp)
      · rw [if_neg c5] at H
        have c5b0 : decide (x9_1 < (l1.length : Int)) = false := decide_eq_false c5
        try have c5b0x1_1 : decide (x9_1 < (x1_1.length : Int)) = false := (by rw [← hl1_1]; exact c5b0)
        clear c5
        obtain rfl := Option.some.inj H
        go_wp2
        first | go_end0 | ((try simp only [Exit.inBlock, Exit.then]); refine bodyPost_ret (results_none rfl _ _ _) rfl ?_)
        exact ⟨by first | rfl | (simp [errW_none, errW_some] <;> rfl) | (simp [*, errW_none, errW_some] <;> rfl), (by first | exact (by (with_reducible repeat (first | apply Kd.R_alloc | apply Kd.R_drewN | apply Kd.R_drew)); exact HO_1.out) | (simp only [hl1_1]; exact (by (with_reducible repeat (first | apply Kd.R_alloc | apply Kd.R_drewN | apply Kd.R_drew)); exact HO_1.out))), by repeat (first | (with_reducible first | exact HB.out | apply below_alloc | apply pw_below_drewN | apply below_drew1) | exact HB.out), by repeat (first | (with_reducible first | exact HK.out | apply Kept.alloc | apply Kept.drewN | apply Kept.drew) | exact HK.out)⟩

end Go.Proofs.Ytjpbemomocccaaa.P

namespace Go.Proofs.Ytjpbemomocccaaa.P
open Go.RowKit Go.Proofs.YtjpbemomocccaaaW.PrintWords Go.Proofs.YtjpbemomocccaaaW.PrintLast Go.Proofs.YtjpbemomocccaaaW.PrintMore
attribute [local go_sem] max2_int min2_int max_two min_two max_three min_three max_four min_four
set_option linter.unusedVariables false
set_option linter.unusedSimpArgs false

/-! ### impl_takeOff: function 71 -/
def impl_takeOff.l0 : Nat → Int → List Int → Int → List Int → Int → Int → Option (List Int)
  | 0, _, _, _, _, _, _ => none
  | k + 1, x0, x1, x3, x10, x11, x12 => if x12 < x11 then (if 0 ≤ x12 then (if x12 < (x10.length : Int) then (if x12 < (x1.length : Int) then (if x0 = 0 then (none) else (impl_takeOff.l0 k x0 (x1.set (x12 : Int).toNat (Int.tmod (wrap64 ((rd x1 x12) + (wrap64 ((wrap64 (x0 - x3)) * (rd x10 x12))))) x0)) x3 x10 x11 (wrap64 (x12 + 1)))) else (none)) else (none)) else (none)) else (some x1)
def impl_takeOff.f (k : Nat) (a0 : Int) (l1 : List Int) (l2 : List Int) (a3 : Int) : Option (List Int) := impl_takeOff.l0 k a0 l1 a3 l2 (l2.length : Int) 0
set_option maxHeartbeats 8000000 in
set_option maxRecDepth 100000 in
theorem impl_takeOff.calls (k : Nat) (a0 : Int) (P1_ : Nat → Prop) (u9000_ : Value) (l1 : List Int) (A2 : Option Addr) (c2 : Nat) (l2 : List Int) (a3 : Int) (r : List Int) (w0 w : World) (hB : Below w0.heap.size w0 w) (ho1 : Kd.R (Kd.int .i64) 2 w w0.heap.size P1_ u9000_ l1) (hr2 : ∀ W_, Kept w W_ (fun k_ => P1_ k_) → Kd.C (Kd.int .i64) W_ A2 l2.length l2) (hc2 : l2.length ≤ c2) (h : impl_takeOff.f k a0 l1 l2 a3 = some r) :
    Calls Try.prog 71 #[.int .i64 a0, u9000_, .slice A2 l2.length c2, .int .i64 a3] w fun e w' => e = .returned (.tuple #[]) ∧ Kd.R (Kd.int .i64) 2 w' w0.heap.size (fun k_ => (P1_ k_ ∨ w.heap.size ≤ k_)) u9000_ r ∧ Below w0.heap.size w0 w' ∧ Kept w w' (fun k_ => P1_ k_) := by
  have HO1 := Aside0.mk (show Kd.R (Kd.int .i64) 2 w w0.heap.size (fun k_ => (P1_ k_ ∨ w.heap.size ≤ k_)) u9000_ l1 from Kd.R_mono ho1 (fun k_ hk => (.inl hk)))
  have HR2 := Aside0.mk hr2
  have HC2 := Aside0.mk hc2
  clear hr2 hc2
  have HK := Aside0.mk (Kept.refl w (fun k_ => P1_ k_))
  have HW0 := Aside0.mk hB.size
  have HB := Aside0.mk hB
  clear hB
  have H : (impl_takeOff.l0 k a0 l1 a3 l2 (l2.length : Int) 0) = some r := h
  clear h
  have H' := Aside0.mk H
  clear H
  go_enter Try.func71, Try.ntmps71
  go_wp2
  go_loopg [12] k (fun kq v12 w' => ∃ (x1_1 : List Int) (x12_1 : Int), v12 = .int .i64 x12_1 ∧ Aside0 (impl_takeOff.l0 kq a0 x1_1 a3 l2 (l2.length : Int) x12_1 = some r) ∧ Aside0 (kq ≤ k) ∧ Aside0 (Kd.R (Kd.int .i64) 2 w' w0.heap.size (fun k_ => (P1_ k_ ∨ w.heap.size ≤ k_)) u9000_ x1_1) ∧ Aside0 (Kept w w' (fun k_ => P1_ k_)) ∧ Aside0 (Below w0.heap.size w0 w'))
  case atStart => exact ⟨(l1), (0), (by first | rfl | (simp; done) | (simp [*]; done)), H', ⟨Nat.le_refl _⟩, ⟨by (with_reducible repeat (first | apply Kd.R_alloc | apply Kd.R_drewN | apply Kd.R_drew)); exact HO1.out⟩, ⟨by repeat (first | (with_reducible first | exact HK.out | apply Kept.alloc | apply Kept.drewN | apply Kept.drew) | exact HK.out)⟩, ⟨by repeat (first | (with_reducible first | exact HB.out | apply below_alloc | apply pw_below_drewN | apply below_drew1) | exact HB.out)⟩⟩
  case round =>
    clear H'
    try clear c2
    try clear p2
    obtain ⟨x1_1, x12_1, rfl, HA, HK1, HO_1, HK, HB⟩ := hrel
    cases gk with
    | zero => exact absurd HA.out (by simp [impl_takeOff.l0])
    | succ k1 =>
      have H := HA.out
      clear HA
      simp only [impl_takeOff.l0] at H
      by_cases c5 : x12_1 < (l2.length : Int)
      · rw [if_pos c5] at H
        have c5b0 : decide (x12_1 < (l2.length : Int)) = true := decide_eq_true c5
        clear c5
        by_cases c6 : 0 ≤ x12_1
        · rw [if_pos c6] at H
          have c6b0 : decide (0 ≤ x12_1) = true := decide_eq_true c6
          clear c6
          by_cases c7 : x12_1 < (l2.length : Int)
          · rw [if_pos c7] at H
            have c7b0 : decide (x12_1 < (l2.length : Int)) = true := decide_eq_true c7
            clear c7
            by_cases c8 : x12_1 < (x1_1.length : Int)
            · rw [if_pos c8] at H
              have c8b0 : decide (x12_1 < (x1_1.length : Int)) = true := decide_eq_true c8
              clear c8
              by_cases c9 : a0 = 0
              · rw [if_pos c9] at H
                exact absurd H (by simp)
              · rw [if_neg c9] at H
                have c9b0 : (a0 == 0) = false := beq_eq_false_iff_ne.mpr c9
                have c9b1 : (a0 != 0) = true := bne_iff_ne.mpr c9
                obtain ⟨y182, hy182⟩ : ∃ y_ : List Int, y_ = (x1_1.set (x12_1 : Int).toNat (Int.tmod (wrap64 ((rd x1_1 x12_1) + (wrap64 ((wrap64 (a0 - a3)) * (rd l2 x12_1))))) a0)) := ⟨_, rfl⟩
                replace H : (impl_takeOff.l0 k1 a0 y182 a3 l2 (l2.length : Int) (wrap64 (x12_1 + 1))) = some r := by first | (rw [hy182]; with_reducible exact H) | (have H2_ := (Option.bind_some _ _).symm.trans H; rw [hy182]; with_reducible exact H2_) | (have H2_ := (Option.bind_some _ _).symm.trans H; with_reducible exact H2_) | with_reducible exact H | (rw [hy182]; exact H) | exact H
                have Ny182 := Aside0.mk hy182
                clear hy182
                have H' := Aside0.mk H
                clear H
                have p180 : 0 ≤ (x12_1 : Int) := of_decide_eq_true (by first | (with_reducible assumption) | assumption)
                have q180 : x12_1 < (l2.length : Int) := of_decide_eq_true (by first | (with_reducible assumption) | assumption)
                obtain ⟨ad180, e180, hx180_0⟩ := Kd.at_int (Kd.C_kept_now HR2.out HK.out) x12_1 p180 q180
                cases e180
                replace p180 := eq_true p180
                replace q180 := eq_true q180
                obtain ⟨Ao11, co11, eo11⟩ := Kd.R_slice HO_1.out
                subst eo11
                have p181 : 0 ≤ (x12_1 : Int) := of_decide_eq_true (by first | (with_reducible assumption) | assumption)
                have q181 : x12_1 < (x1_1.length : Int) := of_decide_eq_true (by first | (with_reducible assumption) | assumption)
                obtain ⟨ad181, e181, hx181_0⟩ := Kd.at_int (Kd.R_reads' HO_1.out).2.2 x12_1 p181 q181
                cases e181
                replace p181 := eq_true p181
                replace q181 := eq_true q181
                have p10 : 0 ≤ (x12_1 : Int) := of_decide_eq_true (by first | (with_reducible assumption) | assumption)
                have q10 : (x12_1 : Int) < ((x1_1.length : Int) : Int) := of_decide_eq_true (by first | (with_reducible assumption) | assumption)
                obtain ⟨go10, co10, eo10, gb10, gl10, cl10, HG10⟩ := Kd.R_form HO_1.out (by omega)
                (first | cases eo10 | (injection eo10 with ea_ en_ ec_; (first | subst ea_ | (injection ea_ with ea_; subst ea_)); subst ec_; clear en_))
                have GB10 := Aside0.mk gb10
                have GG10 := Aside0.mk HG10
                clear gb10 gl10 HG10
                have HMgo10 := Aside0.mk (show (P1_ go10 ∨ w.heap.size ≤ go10) from (HO_1.out.1 _ rfl))
                (first | simp only [add_plain] at hx181_0 | skip)
                obtain ⟨hx10_0, hf10_0⟩ := Kd.R_celln 0 HO_1.out (x12_1 : Int) p10 q10
                replace p10 := eq_true p10
                replace q10 := eq_true q10
                have HP12 := Kd.R_putg HO_1.out (x12_1 : Int) (Int.tmod (wrap64 ((rd x1_1 x12_1) + (wrap64 ((wrap64 (a0 - a3)) * (rd l2 x12_1))))) a0)
                go_wp2_with (first | ((with_reducible refine gate_store (t := 2) (p := 31) rfl ?_); refine store_event (t := 2) (p := 31) (v := ?vo_w13) (w1 := (wr.setCell ⟨go10, (x12_1 : Int).toNat, none⟩ (.int .i64 (Int.tmod (wrap64 ((rd x1_1 x12_1) + (wrap64 ((wrap64 (a0 - a3)) * (rd l2 x12_1))))) a0)))) ?hg ?ho ?hn ?hr ?_; (case ho => rfl); (case hg => rfl); (case hn => rfl); (case hr => first | (go_simp; done) | (go_simp; rfl)); intro w13 hw; have hg : wr.grownBy w13 (some go10) := (by rw [hw]; exact HP12.2); have hp_ : Kd.R (Kd.int .i64) 2 w13 w0.heap.size (fun k_ => (P1_ k_ ∨ w.heap.size ≤ k_)) (.slice (some ⟨go10, 0, none⟩) x1_1.length co11) y182 := (by rw [hw, Ny182.out]; exact HP12.1); clear HP12; have n0_ := Aside0.mk (hp_); have n1_ := Aside0.mk ((by rw [hw]; exact below_set (HB.out) GB10.out : Below w0.heap.size w0 w13)); have n2_ := Aside0.mk (Kept.of_grown (S := (fun k_ => P1_ k_)) hg (by repeat (first | (with_reducible first | exact HK.out | apply Kept.alloc | apply Kept.drewN | apply Kept.drew) | exact HK.out)) (fun k_ e_ => (HO_1.out.1 k_ e_))); clear HO_1; clear HB; clear HK; have HO_1 := n0_; have HB := n1_; have HK := n2_; clear n0_ n1_ n2_; clear hg hw hp_))
                go_roundg k1
                case measure => have := HK1.out; omega
                case rel => exact ⟨(y182), (wrap64 (x12_1 + 1)), (by first | rfl | (simp; done) | (simp [*]; done)), H', ⟨by have := HK1.out; omega⟩, ⟨by (with_reducible repeat (first | apply Kd.R_alloc | apply Kd.R_drewN | apply Kd.R_drew)); exact HO_1.out⟩, ⟨by repeat (first | (with_reducible first | exact HK.out | apply Kept.alloc | apply Kept.drewN | apply Kept.drew) | exact HK.out)⟩, ⟨by repeat (first | (with_reducible first | exact HB.out | apply below_alloc | apply pw_below_drewN | apply below_drew1) | exact HB.out)⟩⟩
            · rw [if_neg c8] at H
              exact absurd H (by simp)
          · rw [if_neg c7] at H
            exact absurd H (by simp)
        · rw [if_neg c6] at H
          exact absurd H (by simp)
      · rw [if_neg c5] at H
        have c5b0 : decide (x12_1 < (l2.length : Int)) = false := decide_eq_false c5
        clear c5
        obtain rfl := Option.some.inj H
        go_wp2
        first | go_end0 | ((try simp only [Exit.inBlock, Exit.then]); refine bodyPost_ret (results_none rfl _ _ _) rfl ?_)
        exact ⟨by first | rfl | (simp [errW_none, errW_some] <;> rfl) | (simp [*, errW_none, errW_some] <;> rfl), by (with_reducible repeat (first | apply Kd.R_alloc | apply Kd.R_drewN | apply Kd.R_drew)); exact HO_1.out, by repeat (first | (with_reducible first | exact HB.out | apply below_alloc | apply pw_below_drewN | apply below_drew1) | exact HB.out), by repeat (first | (with_reducible first | exact HK.out | apply Kept.alloc | apply Kept.drewN | apply Kept.drew) | exact HK.out)⟩

end Go.Proofs.Ytjpbemomocccaaa.P

namespace Go.Proofs.Ytjpbemomocccaaa.P
open Go.RowKit Go.Proofs.YtjpbemomocccaaaW.PrintWords Go.Proofs.YtjpbemomocccaaaW.PrintLast Go.Proofs.YtjpbemomocccaaaW.PrintMore
attribute [local go_sem] max2_int min2_int max_two min_two max_three min_three max_four min_four
set_option linter.unusedVariables false
set_option linter.unusedSimpArgs false

/-- A part of the basis: a row, and of which rows it was. -/
def partAt (parts : List (List Int × List Int)) (i : Int) : List Int × List Int := parts.getD i.toNat ([], [])
def combLess : Nat → Int → List (List Int × List Int) → List Int → List Int → Int → Option (List Int × List Int)
  | 0, _, _, _, _, _ => none
  | k + 1, p, parts, row, from_, i => if i < (parts.length : Int) then (if 0 ≤ i then ((impl_first.f k (partAt parts i).1).bind fun f => if 0 ≤ f then (if f < (row.length : Int) then (if rd row f = 0 then combLess k p parts row from_ (wrap64 (i + 1)) else ((impl_takeOff.f k p row (partAt parts i).1 (rd row f)).bind fun row2 => ((impl_takeOff.f k p from_ (partAt parts i).2 (rd row f)).bind fun from2 => combLess k p parts row2 from2 (wrap64 (i + 1))))) else none) else none) else none) else some (row, from_)
/-- The basis, read. -/
def PartsC (w : World) (A : Option Addr) (parts : List (List Int × List Int)) : Prop := ∀ i : Int, 0 ≤ i → i < (parts.length : Int) → ∃ ad Ar cr Af cf, A = some ad ∧ w.cell? (ad.add (i.toNat * 2)) = some (.slice Ar (partAt parts i).1.length cr) ∧ w.cell? ⟨(ad.add (i.toNat * 2)).block, (ad.add (i.toNat * 2)).off + 1, none⟩ = some (.slice Af (partAt parts i).2.length cf) ∧ (partAt parts i).1.length ≤ cr ∧ (partAt parts i).2.length ≤ cf ∧ Kd.C (Kd.int .i64) w Ar (partAt parts i).1.length (partAt parts i).1 ∧ Kd.C (Kd.int .i64) w Af (partAt parts i).2.length (partAt parts i).2
theorem combC_heap {w W : World} {A : Option Addr} {n : Nat} {xs : List Int} (h : Kd.C (Kd.int .i64) w A n xs) (hs : w.heap.size ≤ W.heap.size) (hk : ∀ i, i < w.heap.size → W.heap[i]? = w.heap[i]?) : Kd.C (Kd.int .i64) W A n xs :=
  (Kd.C_below h (w1 := { w with heap := W.heap }) ⟨rfl, rfl, rfl, hs, hk⟩ : Kd.C (Kd.int .i64) { w with heap := W.heap } A n xs)
theorem combC_kept {w0 w W : World} {A : Option Addr} {n : Nat} {xs : List Int} {S : Nat → Prop} (h : Kd.C (Kd.int .i64) w0 A n xs) (hb : Below w0.heap.size w0 w) (hk : Kept w W S) (hS : ∀ k, S k → w0.heap.size ≤ k) : Kd.C (Kd.int .i64) W A n xs :=
  combC_heap h (Nat.le_trans hb.size hk.1) (fun i hi => (hk.2 i (Nat.lt_of_lt_of_le hi hb.size) (fun hs => Nat.not_le.2 hi (hS i hs))).trans (hb.block i hi))
theorem combCell {w0 w : World} {q : Addr} {u : Value} (hb : Below w0.heap.size w0 w) (h : w0.cell? q = some u) : w.cell? q = some u := by
  by_cases hq : q.block < w0.heap.size
  · have := hb.block q.block hq
    simpa [World.cell?, this] using h
  · have hn : w0.heap[q.block]? = none := Array.getElem?_eq_none (by omega)
    simp [World.cell?, hn] at h
theorem combR_self {w : World} {base : Nat} {P : Nat → Prop} {u : Value} {l : List Int} (h : Kd.R (Kd.int .i64) 2 w base P u l) : Kd.R (Kd.int .i64) 2 w base (fun k => some k = u.ownBlock) u l := Kd.R_of_own (Kd.own_of_R h) (fun _ hk => hk.symm)
theorem combR_base {w : World} {base : Nat} {P : Nat → Prop} {u : Value} {l : List Int} (h : Kd.R (Kd.int .i64) 2 w base P u l) : ∀ k, some k = u.ownBlock → base ≤ k := fun k hk => Kd.R_base h k hk.symm
theorem combR_kept {w W : World} {base : Nat} {P S : Nat → Prop} {u : Value} {l : List Int} (h : Kd.R (Kd.int .i64) 2 w base P u l) (hk : Kept w W S) (hS : ∀ k, some k = u.ownBlock → ¬ S k) : Kd.R (Kd.int .i64) 2 W base (fun k => some k = u.ownBlock) u l := Kd.R_kept (combR_self h) hk (fun k hk => hS k hk)
set_option maxHeartbeats 8000000 in
set_option maxRecDepth 100000 in
theorem combLess.calls (k : Nat) (a0_0 : Int) (vM1 vM2 : Value) (gM gB : Nat) (Ab : Option Addr) (cb : Nat) (parts : List (List Int × List Int)) (Ax Af : Option Addr) (nx cx nf cf : Nat) (row from_ row2 from2 : List Int) (gE : Nat) (csE : Array Value) (tE : TypeId) (w0 w : World) (hM : w0.heap[gM]? = some (.cells #[.int .i64 a0_0, vM1, vM2] 26 (0, 0))) (hB : w0.heap[gB]? = some (.cells #[.slice Ab parts.length cb] 104 (0, 0))) (hP : PartsC w0 Ab parts) (hw : Below w0.heap.size w0 w) (hR : Kd.R (Kd.int .i64) 2 w w0.heap.size (fun _ => True) (.slice Ax nx cx) row) (hF : Kd.R (Kd.int .i64) 2 w w0.heap.size (fun _ => True) (.slice Af nf cf) from_) (hne : ∀ k, ((.slice Ax nx cx) : Value).ownBlock = some k → ((.slice Af nf cf) : Value).ownBlock ≠ some k) (hE : w.heap[gE]? = some (.cells csE tE (0, 0))) (hEX : ∀ k, ((.slice Ax nx cx) : Value).ownBlock = some k → k ≠ gE) (hEF : ∀ k, ((.slice Af nf cf) : Value).ownBlock = some k → k ≠ gE) (h : combLess k a0_0 parts row from_ 0 = some (row2, from2)) :
    Calls Try.prog 101 #[.agg #[(.slice Ax nx cx), (.slice Af nf cf)], .pointer (some ⟨gB, 0, none⟩), .pointer (some ⟨gM, 0, none⟩)] w fun e w' => e = .returned (.agg #[(.slice Ax nx cx), (.slice Af nf cf)]) ∧ Kd.R (Kd.int .i64) 2 w' w0.heap.size (fun _ => True) (.slice Ax nx cx) row2 ∧ Kd.R (Kd.int .i64) 2 w' w0.heap.size (fun _ => True) (.slice Af nf cf) from2 ∧ Below w0.heap.size w0 w' ∧ w'.heap[gE]? = some (.cells csE tE (0, 0)) := by
  have hum := Try.underlying26
  have hup := Try.underlying106
  have HM := Aside0.mk hM
  have HBB := Aside0.mk hB
  have HP := Aside0.mk hP
  have HB := Aside0.mk hw
  have HR := Aside0.mk (combR_self hR)
  have HF := Aside0.mk (combR_self hF)
  have HNE := Aside0.mk hne
  have H' := Aside0.mk h
  have BE0 := Aside0.mk hE
  have HEX := Aside0.mk hEX
  have HEF := Aside0.mk hEF
  have HEL := Aside0.mk (blk_lt hE)
  clear hM hB hP hw hR hF hne h hE hEX hEF
  have hbb : w.cell? ⟨gB, 0, none⟩ = some (.slice Ab parts.length cb) := (blk_cell (blk_below (o := .cells #[.slice Ab parts.length cb] 104 (0, 0)) HBB.out HB.out) 0).trans rfl
  have hltB : gB < w.heap.size := Nat.lt_of_lt_of_le (blk_lt HBB.out) (below_size HB.out)
  have HW0 : Aside0 (w0.heap.size ≤ w.heap.size) := ⟨below_size HB.out⟩
  have HUX : Aside0 (∀ k, ((.slice Ax nx cx) : Value).ownBlock = some k → k < w.heap.size) := ⟨fun k hk => Kd.R_lt HR.out k hk⟩
  have HUF : Aside0 (∀ k, ((.slice Af nf cf) : Value).ownBlock = some k → k < w.heap.size) := ⟨fun k hk => Kd.R_lt HF.out k hk⟩
  go_enter Try.func101, Try.ntmps101
  go_wp2
  have BX0 : Aside0 (((w.alloc (.cells #[.slice Ax nx cx, .slice Af nf cf] 106 (0, 0))).alloc (.cells #[.slice none 0 0, .slice none 0 0] 106 (0, 0))).heap[w.heap.size]? = some (.cells #[.slice Ax nx cx, .slice Af nf cf] 106 (0, 0))) := ⟨blk_alloc (blk_new _ _) _⟩
  have BZ0 : Aside0 (((w.alloc (.cells #[.slice Ax nx cx, .slice Af nf cf] 106 (0, 0))).alloc (.cells #[.slice none 0 0, .slice none 0 0] 106 (0, 0))).heap[w.heap.size + 1]? = some (.cells #[.slice none 0 0, .slice none 0 0] 106 (0, 0))) := ⟨by have h_ := blk_new (w.alloc (.cells #[.slice Ax nx cx, .slice Af nf cf] 106 (0, 0))) (.cells #[.slice none 0 0, .slice none 0 0] 106 (0, 0)); simpa using h_⟩
  clear hbb hltB
  go_loopg [11] k (fun kq v11 w' => ∃ (i : Int) (row from_ : List Int), v11 = .int .i64 i ∧ Aside0 (combLess kq a0_0 parts row from_ i = some (row2, from2)) ∧ Aside0 (kq ≤ k) ∧ Aside0 (Kd.R (Kd.int .i64) 2 w' w0.heap.size (fun k_ => some k_ = ((.slice Ax nx cx) : Value).ownBlock) (.slice Ax nx cx) row) ∧ Aside0 (Kd.R (Kd.int .i64) 2 w' w0.heap.size (fun k_ => some k_ = ((.slice Af nf cf) : Value).ownBlock) (.slice Af nf cf) from_) ∧ Aside0 (w'.heap[w.heap.size]? = some (.cells #[.slice Ax nx cx, .slice Af nf cf] 106 (0, 0))) ∧ Aside0 (w'.heap[w.heap.size + 1]? = some (.cells #[.slice none 0 0, .slice none 0 0] 106 (0, 0))) ∧ Aside0 (Below w0.heap.size w0 w') ∧ Aside0 (w'.heap[gE]? = some (.cells csE tE (0, 0))))
  case atStart => exact ⟨0, row, from_, rfl, H', ⟨Nat.le_refl _⟩, ⟨(by repeat (first | (with_reducible exact HR.out) | (with_reducible apply Kd.R_alloc) | (with_reducible apply Kd.R_drewN) | (with_reducible apply Kd.R_drew) | exact HR.out))⟩, ⟨(by repeat (first | (with_reducible exact HF.out) | (with_reducible apply Kd.R_alloc) | (with_reducible apply Kd.R_drewN) | (with_reducible apply Kd.R_drew) | exact HF.out))⟩, BX0, BZ0, ⟨(by repeat (first | (with_reducible first | exact HB.out | apply below_alloc | apply pw_below_drewN | apply below_drew1) | exact HB.out))⟩, ⟨(by (with_reducible repeat (first | refine blk_drewN ?_ _ | refine blk_drew ?_ | refine blk_alloc ?_ _)); exact BE0.out)⟩⟩
  case round =>
    clear HR HF HB H' BX0 BZ0 BE0
    obtain ⟨i, row, from_, rfl, HA, HK1, HR, HF, BX, BZ, HB, BE⟩ := hrel
    cases gk with
    | zero => exact absurd HA.out (by simp [combLess])
    | succ k1 =>
      have H := HA.out
      clear HA
      simp only [combLess] at H
      by_cases c2 : i < (parts.length : Int)
      · have HSZ : Aside0 (w.heap.size + 2 ≤ wr.heap.size) := ⟨by have := blk_lt BZ.out; omega⟩
        rw [if_pos c2] at H
        by_cases c3 : 0 ≤ i
        case neg => rw [if_neg c3] at H; exact absurd H (by simp)
        rw [if_pos c3] at H
        replace H := Option.bind_eq_some_iff.mp H
        obtain ⟨f, At, H⟩ := H
        have B1 := Aside0.mk At
        clear At
        by_cases c4 : 0 ≤ f
        case neg => rw [if_neg c4] at H; exact absurd H (by simp)
        rw [if_pos c4] at H
        by_cases c5_ : f < (row.length : Int)
        case neg => rw [if_neg c5_] at H; exact absurd H (by simp)
        rw [if_pos c5_] at H
        obtain ⟨ad, Ar, cr, Ag, cg, eA, h0, h1, l0, l1, hC0, hC1⟩ := HP.out i c3 c2
        subst eA
        have hp0 := combCell HB.out h0
        have hp1 := combCell HB.out h1
        have HL := Aside0.mk (And.intro l0 l1)
        have HC0 := Aside0.mk hC0
        have HC1 := Aside0.mk hC1
        clear h0 h1 l0 l1 hC0 hC1
        obtain ⟨b, cb_, eo, gb, _, _⟩ := Kd.R_form HR.out (by omega)
        injection eo with e1 e2 e3
        subst e1
        have EN := Aside0.mk e2
        clear e3
        have GB := Aside0.mk gb
        clear gb
        have c5n : f < (nx : Int) := by omega
        clear e2
        have c2b : decide (i < (parts.length : Int)) = true := decide_eq_true c2
        have c3b : decide (0 ≤ i) = true := decide_eq_true c3
        have c4b : decide (0 ≤ f) = true := decide_eq_true c4
        have c5b : decide (f < (nx : Int)) = true := decide_eq_true c5n
        have CC := Aside0.mk (And.intro c3 (And.intro c2 (And.intro c4 c5n)))
        clear c5_
        replace c2 := eq_true c2
        replace c3 := eq_true c3
        replace c4 := eq_true c4
        replace c5n := eq_true c5n
        by_cases c6 : rd row f = 0
        · rw [if_pos c6] at H
          have c6b : (rd row f == 0) = true := by rw [c6]; rfl
          have c6c : (rd row f != 0) = false := by rw [bne, c6b]; rfl
          replace c6 := Aside0.mk c6
          have H' := Aside0.mk H
          clear H
          go_wp2_with (first | (go_at_call 102; (with_reducible refine (impl_first.calls k1 Ar cr (partAt parts i).1 f _ ?side1 ?side2 B1.out).mono ?_); (case side1 => exact Kd.C_below HC0.out (by repeat (first | (with_reducible first | exact HB.out | apply below_alloc | apply pw_below_drewN | apply below_drew1) | exact HB.out))); (case side2 => exact HL.out.1); rintro e w5 ⟨rfl, hb⟩; have n0_ := Aside0.mk (Kd.R_below (show Kd.R (Kd.int .i64) 2 _ w0.heap.size (fun k_ => some k_ = ((.slice (some ⟨b, 0, none⟩) nx cx) : Value).ownBlock) (.slice (some ⟨b, 0, none⟩) nx cx) row from (by repeat (first | (with_reducible exact HR.out) | (with_reducible apply Kd.R_alloc) | (with_reducible apply Kd.R_drewN) | (with_reducible apply Kd.R_drew) | exact HR.out))) hb); have n1_ := Aside0.mk (Kd.R_below (show Kd.R (Kd.int .i64) 2 _ w0.heap.size (fun k_ => some k_ = ((.slice Af nf cf) : Value).ownBlock) (.slice Af nf cf) from_ from (by repeat (first | (with_reducible exact HF.out) | (with_reducible apply Kd.R_alloc) | (with_reducible apply Kd.R_drewN) | (with_reducible apply Kd.R_drew) | exact HF.out))) hb); have n2_ := Aside0.mk (blk_below (g := w.heap.size) (o := .cells #[(.slice (some ⟨b, 0, none⟩) nx cx), (.slice Af nf cf)] 106 (0, 0)) (by (with_reducible repeat (first | refine blk_drewN ?_ _ | refine blk_drew ?_ | refine blk_alloc ?_ _)); exact BX.out) hb); have n3_ := Aside0.mk (blk_below (g := w.heap.size + 1) (o := .cells #[.slice none 0 0, .slice none 0 0] 106 (0, 0)) (by (with_reducible repeat (first | refine blk_drewN ?_ _ | refine blk_drew ?_ | refine blk_alloc ?_ _)); exact BZ.out) hb); have n4_ := Aside0.mk (below_step (by repeat (first | (with_reducible first | exact HB.out | apply below_alloc | apply pw_below_drewN | apply below_drew1) | exact HB.out)) hb); have n5_ := Aside0.mk (blk_below (g := wr.heap.size) (o := .cells #[.slice Ar (partAt parts i).1.length cr, .slice Ag (partAt parts i).2.length cg] 106 (0, 0)) (by repeat (first | exact blk_new _ _ | refine blk_drewN ?_ _ | refine blk_drew ?_)) hb); have n6_ := Aside0.mk (blk_below (g := gE) (o := .cells csE tE (0, 0)) (by (with_reducible repeat (first | refine blk_drewN ?_ _ | refine blk_drew ?_ | refine blk_alloc ?_ _)); exact BE.out) hb); clear HR HF BX BZ HB BE; have HR := n0_; have HF := n1_; have BX := n2_; have BZ := n3_; have HB := n4_; have B6 := n5_; have BE := n6_; clear n0_ n1_ n2_ n3_ n4_ n5_ n6_ hb hp0 hp1; have hrf : w5.cell? ⟨b, f.toNat, none⟩ = some (.int .i64 (rd row f)) := (Kd.R_celln 0 HR.out f CC.out.2.2.1 CC.out.2.2.2).1; have hm0 : w5.cell? ⟨gM, 0, none⟩ = some (.int .i64 a0_0) := (blk_cell (blk_below (o := .cells #[.int .i64 a0_0, vM1, vM2] 26 (0, 0)) HM.out HB.out) 0).trans rfl; have hx0 : w5.cell? ⟨w.heap.size, 0, none⟩ = some (.slice (some ⟨b, 0, none⟩) nx cx) := (blk_cell BX.out 0).trans rfl; have hx1 : w5.cell? ⟨w.heap.size, 1, none⟩ = some (.slice Af nf cf) := (blk_cell BX.out 1).trans rfl; have h60 : w5.cell? ⟨wr.heap.size, 0, none⟩ = some (.slice Ar (partAt parts i).1.length cr) := (blk_cell B6.out 0).trans rfl; have h61 : w5.cell? ⟨wr.heap.size, 1, none⟩ = some (.slice Ag (partAt parts i).2.length cg) := (blk_cell B6.out 1).trans rfl))
          go_roundg k1
          case measure => have := HK1.out; omega
          case rel => exact ⟨_, _, _, rfl, H', ⟨by have := HK1.out; omega⟩, HR, HF, BX, BZ, HB, BE⟩
        · rw [if_neg c6] at H
          have c6b : (rd row f == 0) = false := beq_eq_false_iff_ne.mpr c6
          have c6c : (rd row f != 0) = true := bne_iff_ne.mpr c6
          replace c6 := Aside0.mk c6
          replace H := Option.bind_eq_some_iff.mp H
          obtain ⟨row3, At, H⟩ := H
          have B2 := Aside0.mk At
          clear At
          replace H := Option.bind_eq_some_iff.mp H
          obtain ⟨from3, At, H⟩ := H
          have B3 := Aside0.mk At
          clear At
          have H' := Aside0.mk H
          clear H
          go_wp2_with (first | (go_at_call 102; (with_reducible refine (impl_first.calls k1 Ar cr (partAt parts i).1 f _ ?side1 ?side2 B1.out).mono ?_); (case side1 => exact Kd.C_below HC0.out (by repeat (first | (with_reducible first | exact HB.out | apply below_alloc | apply pw_below_drewN | apply below_drew1) | exact HB.out))); (case side2 => exact HL.out.1); rintro e w5 ⟨rfl, hb⟩; have n0_ := Aside0.mk (Kd.R_below (show Kd.R (Kd.int .i64) 2 _ w0.heap.size (fun k_ => some k_ = ((.slice (some ⟨b, 0, none⟩) nx cx) : Value).ownBlock) (.slice (some ⟨b, 0, none⟩) nx cx) row from (by repeat (first | (with_reducible exact HR.out) | (with_reducible apply Kd.R_alloc) | (with_reducible apply Kd.R_drewN) | (with_reducible apply Kd.R_drew) | exact HR.out))) hb); have n1_ := Aside0.mk (Kd.R_below (show Kd.R (Kd.int .i64) 2 _ w0.heap.size (fun k_ => some k_ = ((.slice Af nf cf) : Value).ownBlock) (.slice Af nf cf) from_ from (by repeat (first | (with_reducible exact HF.out) | (with_reducible apply Kd.R_alloc) | (with_reducible apply Kd.R_drewN) | (with_reducible apply Kd.R_drew) | exact HF.out))) hb); have n2_ := Aside0.mk (blk_below (g := w.heap.size) (o := .cells #[(.slice (some ⟨b, 0, none⟩) nx cx), (.slice Af nf cf)] 106 (0, 0)) (by (with_reducible repeat (first | refine blk_drewN ?_ _ | refine blk_drew ?_ | refine blk_alloc ?_ _)); exact BX.out) hb); have n3_ := Aside0.mk (blk_below (g := w.heap.size + 1) (o := .cells #[.slice none 0 0, .slice none 0 0] 106 (0, 0)) (by (with_reducible repeat (first | refine blk_drewN ?_ _ | refine blk_drew ?_ | refine blk_alloc ?_ _)); exact BZ.out) hb); have n4_ := Aside0.mk (below_step (by repeat (first | (with_reducible first | exact HB.out | apply below_alloc | apply pw_below_drewN | apply below_drew1) | exact HB.out)) hb); have n5_ := Aside0.mk (blk_below (g := wr.heap.size) (o := .cells #[.slice Ar (partAt parts i).1.length cr, .slice Ag (partAt parts i).2.length cg] 106 (0, 0)) (by repeat (first | exact blk_new _ _ | refine blk_drewN ?_ _ | refine blk_drew ?_)) hb); have n6_ := Aside0.mk (blk_below (g := gE) (o := .cells csE tE (0, 0)) (by (with_reducible repeat (first | refine blk_drewN ?_ _ | refine blk_drew ?_ | refine blk_alloc ?_ _)); exact BE.out) hb); clear HR HF BX BZ HB BE; have HR := n0_; have HF := n1_; have BX := n2_; have BZ := n3_; have HB := n4_; have B6 := n5_; have BE := n6_; clear n0_ n1_ n2_ n3_ n4_ n5_ n6_ hb hp0 hp1; have hrf : w5.cell? ⟨b, f.toNat, none⟩ = some (.int .i64 (rd row f)) := (Kd.R_celln 0 HR.out f CC.out.2.2.1 CC.out.2.2.2).1; have hm0 : w5.cell? ⟨gM, 0, none⟩ = some (.int .i64 a0_0) := (blk_cell (blk_below (o := .cells #[.int .i64 a0_0, vM1, vM2] 26 (0, 0)) HM.out HB.out) 0).trans rfl; have hx0 : w5.cell? ⟨w.heap.size, 0, none⟩ = some (.slice (some ⟨b, 0, none⟩) nx cx) := (blk_cell BX.out 0).trans rfl; have hx1 : w5.cell? ⟨w.heap.size, 1, none⟩ = some (.slice Af nf cf) := (blk_cell BX.out 1).trans rfl; have h60 : w5.cell? ⟨wr.heap.size, 0, none⟩ = some (.slice Ar (partAt parts i).1.length cr) := (blk_cell B6.out 0).trans rfl; have h61 : w5.cell? ⟨wr.heap.size, 1, none⟩ = some (.slice Ag (partAt parts i).2.length cg) := (blk_cell B6.out 1).trans rfl) | (go_at_call 71; (with_reducible refine (impl_takeOff.calls k1 a0_0 (fun k_ => some k_ = ((.slice (some ⟨b, 0, none⟩) nx cx) : Value).ownBlock) (.slice (some ⟨b, 0, none⟩) nx cx) row Ar cr (partAt parts i).1 (rd row f) row3 w0 _ ?sB ?sR ?sC ?sL B2.out).mono ?_); (case sB => exact (by repeat (first | (with_reducible first | exact HB.out | apply below_alloc | apply pw_below_drewN | apply below_drew1) | exact HB.out))); (case sR => exact (by repeat (first | (with_reducible exact HR.out) | (with_reducible apply Kd.R_alloc) | (with_reducible apply Kd.R_drewN) | (with_reducible apply Kd.R_drew) | exact HR.out))); (case sC => exact (fun W_ hk => combC_kept HC0.out (by repeat (first | (with_reducible first | exact HB.out | apply below_alloc | apply pw_below_drewN | apply below_drew1) | exact HB.out)) hk (combR_base HR.out))); (case sL => exact HL.out.1); rintro e w7 ⟨rfl, hR, hBw, hK⟩; have n2_ : Aside0 (w7.heap[w.heap.size]? = some (.cells #[(.slice (some ⟨b, 0, none⟩) nx cx), (.slice Af nf cf)] 106 (0, 0))) := ⟨(hK.2 _ (blk_lt (o := .cells #[(.slice (some ⟨b, 0, none⟩) nx cx), (.slice Af nf cf)] 106 (0, 0)) (by (with_reducible repeat (first | refine blk_drewN ?_ _ | refine blk_drew ?_ | refine blk_alloc ?_ _)); exact BX.out)) (fun hs => Nat.lt_irrefl _ (HUX.out _ hs.symm))).trans (by (with_reducible repeat (first | refine blk_drewN ?_ _ | refine blk_drew ?_ | refine blk_alloc ?_ _)); exact BX.out)⟩; have n3_ : Aside0 (w7.heap[w.heap.size + 1]? = some (.cells #[.slice none 0 0, .slice none 0 0] 106 (0, 0))) := ⟨(hK.2 _ (blk_lt (o := .cells #[.slice none 0 0, .slice none 0 0] 106 (0, 0)) (by (with_reducible repeat (first | refine blk_drewN ?_ _ | refine blk_drew ?_ | refine blk_alloc ?_ _)); exact BZ.out)) (fun hs => by have := HUX.out _ hs.symm; omega)).trans (by (with_reducible repeat (first | refine blk_drewN ?_ _ | refine blk_drew ?_ | refine blk_alloc ?_ _)); exact BZ.out)⟩; have n5_ : Aside0 (w7.heap[wr.heap.size]? = some (.cells #[.slice Ar (partAt parts i).1.length cr, .slice Ag (partAt parts i).2.length cg] 106 (0, 0))) := ⟨(hK.2 _ (blk_lt (o := .cells #[.slice Ar (partAt parts i).1.length cr, .slice Ag (partAt parts i).2.length cg] 106 (0, 0)) (by (with_reducible repeat (first | refine blk_drewN ?_ _ | refine blk_drew ?_ | refine blk_alloc ?_ _)); exact B6.out)) (fun hs => by have := HUX.out _ hs.symm; have := HSZ.out; omega)).trans (by (with_reducible repeat (first | refine blk_drewN ?_ _ | refine blk_drew ?_ | refine blk_alloc ?_ _)); exact B6.out)⟩; have n6_ : Aside0 (w7.heap[gE]? = some (.cells csE tE (0, 0))) := ⟨(hK.2 _ (blk_lt (o := .cells csE tE (0, 0)) (by (with_reducible repeat (first | refine blk_drewN ?_ _ | refine blk_drew ?_ | refine blk_alloc ?_ _)); exact BE.out)) (fun hs => HEX.out _ hs.symm rfl)).trans (by (with_reducible repeat (first | refine blk_drewN ?_ _ | refine blk_drew ?_ | refine blk_alloc ?_ _)); exact BE.out)⟩; have n0_ := Aside0.mk (combR_self hR); have n1_ := Aside0.mk (combR_kept (show Kd.R (Kd.int .i64) 2 _ w0.heap.size (fun k_ => some k_ = ((.slice Af nf cf) : Value).ownBlock) (.slice Af nf cf) from_ from (by repeat (first | (with_reducible exact HF.out) | (with_reducible apply Kd.R_alloc) | (with_reducible apply Kd.R_drewN) | (with_reducible apply Kd.R_drew) | exact HF.out))) hK (fun k_ hk hs => HNE.out k_ hs.symm hk.symm)); have n4_ := Aside0.mk hBw; clear HR HF BX BZ HB BE B6 B2 hm0 hx0 hx1 h60 h61 hrf hR hBw hK; have HR := n0_; have HF := n1_; have BX := n2_; have BZ := n3_; have HB := n4_; have B6 := n5_; have BE := n6_; clear n0_ n1_ n2_ n3_ n4_ n5_ n6_; have hm0 : w7.cell? ⟨gM, 0, none⟩ = some (.int .i64 a0_0) := (blk_cell (blk_below (o := .cells #[.int .i64 a0_0, vM1, vM2] 26 (0, 0)) HM.out HB.out) 0).trans rfl; have hx0 : w7.cell? ⟨w.heap.size, 0, none⟩ = some (.slice (some ⟨b, 0, none⟩) nx cx) := (blk_cell BX.out 0).trans rfl; have hx1 : w7.cell? ⟨w.heap.size, 1, none⟩ = some (.slice Af nf cf) := (blk_cell BX.out 1).trans rfl; have h60 : w7.cell? ⟨wr.heap.size, 0, none⟩ = some (.slice Ar (partAt parts i).1.length cr) := (blk_cell B6.out 0).trans rfl; have h61 : w7.cell? ⟨wr.heap.size, 1, none⟩ = some (.slice Ag (partAt parts i).2.length cg) := (blk_cell B6.out 1).trans rfl) | (go_at_call 71; (with_reducible refine (impl_takeOff.calls k1 a0_0 (fun k_ => some k_ = ((.slice Af nf cf) : Value).ownBlock) (.slice Af nf cf) from_ Ag cg (partAt parts i).2 (rd row f) from3 w0 _ ?sB ?sR ?sC ?sL B3.out).mono ?_); (case sB => exact (by repeat (first | (with_reducible first | exact HB.out | apply below_alloc | apply pw_below_drewN | apply below_drew1) | exact HB.out))); (case sR => exact (by repeat (first | (with_reducible exact HF.out) | (with_reducible apply Kd.R_alloc) | (with_reducible apply Kd.R_drewN) | (with_reducible apply Kd.R_drew) | exact HF.out))); (case sC => exact (fun W_ hk => combC_kept HC1.out (by repeat (first | (with_reducible first | exact HB.out | apply below_alloc | apply pw_below_drewN | apply below_drew1) | exact HB.out)) hk (combR_base HF.out))); (case sL => exact HL.out.2); rintro e w8 ⟨rfl, hR, hBw, hK⟩; have n2_ : Aside0 (w8.heap[w.heap.size]? = some (.cells #[(.slice (some ⟨b, 0, none⟩) nx cx), (.slice Af nf cf)] 106 (0, 0))) := ⟨(hK.2 _ (blk_lt (o := .cells #[(.slice (some ⟨b, 0, none⟩) nx cx), (.slice Af nf cf)] 106 (0, 0)) (by (with_reducible repeat (first | refine blk_drewN ?_ _ | refine blk_drew ?_ | refine blk_alloc ?_ _)); exact BX.out)) (fun hs => Nat.lt_irrefl _ (HUF.out _ hs.symm))).trans (by (with_reducible repeat (first | refine blk_drewN ?_ _ | refine blk_drew ?_ | refine blk_alloc ?_ _)); exact BX.out)⟩; have n3_ : Aside0 (w8.heap[w.heap.size + 1]? = some (.cells #[.slice none 0 0, .slice none 0 0] 106 (0, 0))) := ⟨(hK.2 _ (blk_lt (o := .cells #[.slice none 0 0, .slice none 0 0] 106 (0, 0)) (by (with_reducible repeat (first | refine blk_drewN ?_ _ | refine blk_drew ?_ | refine blk_alloc ?_ _)); exact BZ.out)) (fun hs => by have := HUF.out _ hs.symm; omega)).trans (by (with_reducible repeat (first | refine blk_drewN ?_ _ | refine blk_drew ?_ | refine blk_alloc ?_ _)); exact BZ.out)⟩; have n5_ : Aside0 (w8.heap[wr.heap.size]? = some (.cells #[.slice Ar (partAt parts i).1.length cr, .slice Ag (partAt parts i).2.length cg] 106 (0, 0))) := ⟨(hK.2 _ (blk_lt (o := .cells #[.slice Ar (partAt parts i).1.length cr, .slice Ag (partAt parts i).2.length cg] 106 (0, 0)) (by (with_reducible repeat (first | refine blk_drewN ?_ _ | refine blk_drew ?_ | refine blk_alloc ?_ _)); exact B6.out)) (fun hs => by have := HUF.out _ hs.symm; have := HSZ.out; omega)).trans (by (with_reducible repeat (first | refine blk_drewN ?_ _ | refine blk_drew ?_ | refine blk_alloc ?_ _)); exact B6.out)⟩; have n6_ : Aside0 (w8.heap[gE]? = some (.cells csE tE (0, 0))) := ⟨(hK.2 _ (blk_lt (o := .cells csE tE (0, 0)) (by (with_reducible repeat (first | refine blk_drewN ?_ _ | refine blk_drew ?_ | refine blk_alloc ?_ _)); exact BE.out)) (fun hs => HEF.out _ hs.symm rfl)).trans (by (with_reducible repeat (first | refine blk_drewN ?_ _ | refine blk_drew ?_ | refine blk_alloc ?_ _)); exact BE.out)⟩; have n0_ := Aside0.mk (combR_self hR); have n1_ := Aside0.mk (combR_kept (show Kd.R (Kd.int .i64) 2 _ w0.heap.size (fun k_ => some k_ = ((.slice (some ⟨b, 0, none⟩) nx cx) : Value).ownBlock) (.slice (some ⟨b, 0, none⟩) nx cx) row3 from (by repeat (first | (with_reducible exact HR.out) | (with_reducible apply Kd.R_alloc) | (with_reducible apply Kd.R_drewN) | (with_reducible apply Kd.R_drew) | exact HR.out))) hK (fun k_ hk hs => HNE.out k_ hk.symm hs.symm)); have n4_ := Aside0.mk hBw; clear HR HF BX BZ HB BE B6 B3 hm0 hx0 hx1 h60 h61 hR hBw hK; have HF := n0_; have HR := n1_; have BX := n2_; have BZ := n3_; have HB := n4_; have B6 := n5_; have BE := n6_; clear n0_ n1_ n2_ n3_ n4_ n5_ n6_))
          go_roundg k1
          case measure => have := HK1.out; omega
          case rel => exact ⟨_, _, _, rfl, H', ⟨by have := HK1.out; omega⟩, HR, HF, BX, BZ, HB, BE⟩
      · rw [if_neg c2] at H
        have c2b : decide (i < (parts.length : Int)) = false := decide_eq_false c2
        replace c2 := Aside0.mk c2
        obtain ⟨rfl, rfl⟩ := (by simpa using H : row = row2 ∧ from_ = from2)
        clear H
        have hx0 : wr.cell? ⟨w.heap.size, 0, none⟩ = some (.slice Ax nx cx) := (blk_cell BX.out 0).trans rfl
        have hx1 : wr.cell? ⟨w.heap.size, 1, none⟩ = some (.slice Af nf cf) := (blk_cell BX.out 1).trans rfl
        have hz0 : wr.cell? ⟨w.heap.size + 1, 0, none⟩ = some (.slice none 0 0) := (blk_cell BZ.out 0).trans rfl
        have hz1 : wr.cell? ⟨w.heap.size + 1, 1, none⟩ = some (.slice none 0 0) := (blk_cell BZ.out 1).trans rfl
        have hf0 := blk_frozen BZ.out 0
        have hf1 := blk_frozen BZ.out 1
        go_wp2
        (try simp only [Exit.inBlock, Exit.then])
        refine bodyPost_ret (results_cell_row rfl _ _ (w.heap.size + 1) 106 #[(.slice Ax nx cx), (.slice Af nf cf)] (0, 0) _ rfl (by (with_reducible repeat (first | refine blk_drewN ?_ _ | refine blk_drew ?_ | refine blk_alloc ?_ _)); refine blk_put (cs := #[(.slice Ax nx cx), .slice none 0 0]) ?_ 1 _ rfl; (with_reducible repeat (first | refine blk_drewN ?_ _ | refine blk_drew ?_ | refine blk_alloc ?_ _)); refine blk_put (cs := #[.slice none 0 0, .slice none 0 0]) ?_ 0 _ rfl; (with_reducible repeat (first | refine blk_drewN ?_ _ | refine blk_drew ?_ | refine blk_alloc ?_ _)); exact BZ.out) Try.underlying106 rfl (by kernel_rfl)) rfl ?_
        have hge : w0.heap.size ≤ w.heap.size + 1 := by have := HW0.out; omega
        refine ⟨rfl, ?_, ?_, ?_, ?_⟩
        · exact Kd.R_mono (Kd.R_far (p := ⟨w.heap.size + 1, 1, none⟩) (Kd.R_far (p := ⟨w.heap.size + 1, 0, none⟩) (by repeat (first | (with_reducible exact HR.out) | (with_reducible apply Kd.R_alloc) | (with_reducible apply Kd.R_drewN) | (with_reducible apply Kd.R_drew) | exact HR.out)) (fun k_ hk => by show k_ ≠ w.heap.size + 1; have := HUX.out k_ hk.symm; omega) _) (fun k_ hk => by show k_ ≠ w.heap.size + 1; have := HUX.out k_ hk.symm; omega) _) (fun _ _ => trivial)
        · exact Kd.R_mono (Kd.R_far (p := ⟨w.heap.size + 1, 1, none⟩) (Kd.R_far (p := ⟨w.heap.size + 1, 0, none⟩) (by repeat (first | (with_reducible exact HF.out) | (with_reducible apply Kd.R_alloc) | (with_reducible apply Kd.R_drewN) | (with_reducible apply Kd.R_drew) | exact HF.out)) (fun k_ hk => by show k_ ≠ w.heap.size + 1; have := HUF.out k_ hk.symm; omega) _) (fun k_ hk => by show k_ ≠ w.heap.size + 1; have := HUF.out k_ hk.symm; omega) _) (fun _ _ => trivial)
        · exact below_set (below_set (by repeat (first | (with_reducible first | exact HB.out | apply below_alloc | apply pw_below_drewN | apply below_drew1) | exact HB.out)) hge) hge
        · exact blk_far (blk_far (by (with_reducible repeat (first | refine blk_drewN ?_ _ | refine blk_drew ?_ | refine blk_alloc ?_ _)); exact BE.out) (by show gE ≠ w.heap.size + 1; have := HEL.out; omega) _) (by show gE ≠ w.heap.size + 1; have := HEL.out; omega) _

end Go.Proofs.Ytjpbemomocccaaa.P

namespace Go.Proofs.Ytjpbemomocccaaa.P
open Go.RowKit Go.Proofs.YtjpbemomocccaaaW.PrintWords Go.Proofs.YtjpbemomocccaaaW.PrintLast Go.Proofs.YtjpbemomocccaaaW.PrintMore
attribute [local go_sem] max2_int min2_int max_two min_two max_three min_three max_four min_four
set_option linter.unusedVariables false
set_option linter.unusedSimpArgs false

/-- impl.combination's walk over the rows, and what it answers. -/
def combRows : Nat → Int → List (List Int) → List (List Int × List Int) → Int → Option (List (List Int × List Int))
  | 0, _, _, _, _ => none
  | k + 1, p, rows, parts, i => if i < (rows.length : Int) then (if 0 ≤ i then (if rows.length ≤ 1048576 then ((slices_Clone_int64_int64.f (rd_L1 rows i)).bind fun r0 => ((combLess k p parts r0 ((List.replicate rows.length 0).set i.toNat 1) 0).bind fun x => ((impl_first.f k x.1).bind fun f => if 0 ≤ f then (if f < (x.1.length : Int) then ((impl_inverse.f k p (rd x.1 f)).bind fun by_ => ((impl_scaled.f k p x.1 by_).bind fun r2 => ((impl_scaled.f k p x.2 by_).bind fun f2 => if parts.length < 1048576 then combRows k p rows (parts ++ [(r2, f2)]) (wrap64 (i + 1)) else none))) else none) else combRows k p rows parts (wrap64 (i + 1))))) else none) else none) else some parts
def combMain (k : Nat) (p : Int) (rows : List (List Int)) (l : List Int) : Option (List Int × Bool) := (combRows k p rows [] 0).bind fun parts => ((slices_Clone_int64_int64.f l).bind fun t0 => ((combLess k p parts t0 (List.replicate rows.length 0) 0).bind fun x => ((impl_first.f k x.1).bind fun f => if 0 ≤ f then some ([], false) else ((impl_scaled.f k p x.2 (wrap64 (p - 1))).bind fun out => some (out, true)))))
end Go.Proofs.Ytjpbemomocccaaa.P

namespace Go.Proofs.Ytjpbemomocccaaa.P
open Go.RowKit Go.Proofs.YtjpbemomocccaaaW.PrintWords Go.Proofs.YtjpbemomocccaaaW.PrintLast Go.Proofs.YtjpbemomocccaaaW.PrintMore
attribute [local go_sem] max2_int min2_int max_two min_two max_three min_three max_four min_four
set_option linter.unusedVariables false
set_option linter.unusedSimpArgs false

theorem combParts {e : Nat} {w : World} {base : Nat} {ok : Nat → Prop} {v : Value} {parts : List (List Int × List Int)} (h : Kd.R (Kd.pair (Kd.slice 2 (Kd.int .i64)) (Kd.slice 2 (Kd.int .i64))) e w base ok v parts) : ∃ A c, v = .slice A parts.length c ∧ parts.length ≤ c ∧ PartsC w A parts := by
  obtain ⟨A, c, hv, hc, hC⟩ := Kd.R_reads h
  refine ⟨A, c, hv, hc, fun i h0 h1 => ?_⟩
  obtain ⟨g, cap, hf, _, _, _⟩ := Kd.R_form h (by omega)
  have hA : A = some ⟨g, 0, none⟩ := by rw [hv] at hf; injection hf
  obtain ⟨ad, cs, eA, _, hK, hcell⟩ := Kd.C_get hC (([], []) : List Int × List Int) i h0 h1
  obtain ⟨d0, d1, rfl, ⟨Ar, cr, rfl, lr, hr⟩, ⟨Af, cf, rfl, lf, hf2⟩⟩ := hK
  have e2 : ad = ⟨g, 0, none⟩ := by rw [hA] at eA; injection eA with eA; exact eA.symm
  subst e2
  have q0 := hcell 0 _ rfl
  have q1 := hcell 1 _ rfl
  rw [show ((Kd.pair (Kd.slice 2 (Kd.int .i64)) (Kd.slice 2 (Kd.int .i64)))).sz = 2 from rfl] at q0 q1
  have e3 : (⟨((⟨g, 0, none⟩ : Addr).add (i.toNat * 2)).block, ((⟨g, 0, none⟩ : Addr).add (i.toNat * 2)).off + 1, none⟩ : Addr) = (⟨g, 0, none⟩ : Addr).add (i.toNat * 2 + 1) := by by_cases h_ : i.toNat * 2 = 0 <;> simp [Addr.add, h_]
  exact ⟨_, Ar, cr, Af, cf, hA, by rw [Nat.add_zero] at q0; exact q0, by rw [e3]; exact q1, lr, lf, hr, hf2⟩
theorem combLen {W : World} {base : Nat} {P : Nat → Prop} {A : Option Addr} {n c : Nat} {l : List Int} (h : Kd.R (Kd.int .i64) 2 W base P (.slice A n c) l) : n = l.length := (Kd.R_reads' h).1
theorem combInfo : (Try.prog.info? 106).map (fun i => (i.zero, i.size, i.bytes)) = some (some (.agg #[.slice none 0 0, .slice none 0 0]), 2, 48) := by kernel_rfl
/-- The variable x of combination: a box of two rows (of the world's own, since w0), and the rows. -/
structure CombX (w0 W : World) (gx : Nat) (cs : Array Value) (Ax Af : Option Addr) (cx cf : Nat) (row from_ : List Int) : Prop where
  hx : Kd.R (Kd.int .i64) 2 W w0.heap.size (fun k => some k = (Value.slice Ax row.length cx).ownBlock) (.slice Ax row.length cx) row
  hf : Kd.R (Kd.int .i64) 2 W w0.heap.size (fun k => some k = (Value.slice Af from_.length cf).ownBlock) (.slice Af from_.length cf) from_
  box : W.heap[gx]? = some (.cells cs 106 (0, 0))
  be : Below w0.heap.size w0 W
  ne : ∀ k, (Value.slice Ax row.length cx).ownBlock = some k → (Value.slice Af from_.length cf).ownBlock ≠ some k
  nx : ∀ k, (Value.slice Ax row.length cx).ownBlock = some k → k ≠ gx
  nf : ∀ k, (Value.slice Af from_.length cf).ownBlock = some k → k ≠ gx
  gw : w0.heap.size ≤ gx
theorem CombX.mk' {w0 W : World} {gx : Nat} {cs : Array Value} {Ax Af : Option Addr} {cx cf n m : Nat} {row from_ : List Int} {P1 P2 : Nat → Prop} (hx : Kd.R (Kd.int .i64) 2 W w0.heap.size P1 (.slice Ax n cx) row) (hf : Kd.R (Kd.int .i64) 2 W w0.heap.size P2 (.slice Af m cf) from_) (box : W.heap[gx]? = some (.cells cs 106 (0, 0))) (be : Below w0.heap.size w0 W) (ne : ∀ k, (Value.slice Ax n cx).ownBlock = some k → (Value.slice Af m cf).ownBlock ≠ some k) (nx : ∀ k, (Value.slice Ax n cx).ownBlock = some k → k ≠ gx) (nf : ∀ k, (Value.slice Af m cf).ownBlock = some k → k ≠ gx) (gw : w0.heap.size ≤ gx) : CombX w0 W gx cs Ax Af cx cf row from_ := by
  have e := combLen hx
  have e' := combLen hf
  subst e e'
  exact ⟨combR_self hx, combR_self hf, box, be, ne, nx, nf, gw⟩
theorem CombX.below {w0 W W' : World} {gx : Nat} {cs : Array Value} {Ax Af : Option Addr} {cx cf : Nat} {row from_ : List Int} (X : CombX w0 W gx cs Ax Af cx cf row from_) (hb : Below W.heap.size W W') : CombX w0 W' gx cs Ax Af cx cf row from_ :=
  ⟨Kd.R_below X.hx hb, Kd.R_below X.hf hb, blk_below X.box hb, below_step X.be hb, X.ne, X.nx, X.nf, X.gw⟩
theorem CombX.drew {w0 W : World} {gx : Nat} {cs : Array Value} {Ax Af : Option Addr} {cx cf : Nat} {row from_ : List Int} (X : CombX w0 W gx cs Ax Af cx cf row from_) : CombX w0 W.drew gx cs Ax Af cx cf row from_ :=
  X.below (below_drew1 (Below.refl _ _))
theorem CombX.put {w0 W : World} {gx : Nat} {u0 v0 : Value} {Ax Af : Option Addr} {cx cf : Nat} {row from_ : List Int} (X : CombX w0 W gx #[u0, v0] Ax Af cx cf row from_) (u v : Value) : CombX w0 ((W.setCell ⟨gx, 0, none⟩ u).setCell ⟨gx, 1, none⟩ v) gx #[u, v] Ax Af cx cf row from_ :=
  ⟨Kd.R_far (p := ⟨gx, 1, none⟩) (Kd.R_far (p := ⟨gx, 0, none⟩) X.hx (fun k hk => X.nx k hk.symm) u) (fun k hk => X.nx k hk.symm) v, Kd.R_far (p := ⟨gx, 1, none⟩) (Kd.R_far (p := ⟨gx, 0, none⟩) X.hf (fun k hk => X.nf k hk.symm) u) (fun k hk => X.nf k hk.symm) v, blk_put (blk_put X.box 0 u rfl) 1 v rfl, below_set (j := 1) (v := v) (below_set (j := 0) (v := u) X.be X.gw) X.gw, X.ne, X.nx, X.nf, X.gw⟩
theorem CombX.putf {w0 W : World} {gx bm : Nat} {cs : Array Value} {Ax : Option Addr} {cx cf : Nat} {row from_ : List Int} (X : CombX w0 W gx cs Ax (some ⟨bm, 0, none⟩) cx cf row from_) (i v : Int) : CombX w0 (W.setCell ⟨bm, i.toNat, none⟩ (.int .i64 v)) gx cs Ax (some ⟨bm, 0, none⟩) cx cf row (from_.set i.toNat v) :=
  CombX.mk' (Kd.R_far (p := ⟨bm, i.toNat, none⟩) X.hx (fun k hk e => X.ne k hk.symm (by rw [e]; rfl)) _) (Kd.R_putn X.hf i v) (blk_far X.box (p := ⟨bm, i.toNat, none⟩) (fun e => X.nf bm rfl e.symm) _) (below_set X.be (Kd.R_base X.hf bm rfl)) X.ne X.nx X.nf X.gw
theorem CombX.less {w0 W W' : World} {gx : Nat} {cs cs' : Array Value} {Ax Af : Option Addr} {cx cf n m : Nat} {row from_ row2 from2 : List Int} (X : CombX w0 W gx cs Ax Af cx cf row from_) (hn : n = row.length) (hm : m = from_.length) (hR : Kd.R (Kd.int .i64) 2 W' w0.heap.size (fun _ => True) (.slice Ax n cx) row2) (hF : Kd.R (Kd.int .i64) 2 W' w0.heap.size (fun _ => True) (.slice Af m cf) from2) (hb : Below w0.heap.size w0 W') (box : W'.heap[gx]? = some (.cells cs' 106 (0, 0))) : CombX w0 W' gx cs' Ax Af cx cf row2 from2 := by
  subst hn hm
  exact CombX.mk' hR hF box hb X.ne X.nx X.nf X.gw
theorem CombX.scx {w0 W W' : World} {gx : Nat} {cs : Array Value} {Ax Af : Option Addr} {cx cf : Nat} {row from_ r : List Int} {P1 : Nat → Prop} (X : CombX w0 W gx cs Ax Af cx cf row from_) (hR : Kd.R (Kd.int .i64) 2 W' w0.heap.size P1 (.slice Ax row.length cx) r) (hb : Below w0.heap.size w0 W') (hK : Kept W W' (fun k => some k = (Value.slice Ax row.length cx).ownBlock)) : CombX w0 W' gx cs Ax Af cx cf r from_ :=
  CombX.mk' hR (combR_kept X.hf hK (fun k hk hs => X.ne k hs.symm hk.symm)) ((hK.2 _ (blk_lt X.box) (fun hs => X.nx _ hs.symm rfl)).trans X.box) hb X.ne X.nx X.nf X.gw
theorem CombX.scf {w0 W W' : World} {gx : Nat} {cs : Array Value} {Ax Af : Option Addr} {cx cf : Nat} {row from_ r : List Int} {P1 : Nat → Prop} (X : CombX w0 W gx cs Ax Af cx cf row from_) (hR : Kd.R (Kd.int .i64) 2 W' w0.heap.size P1 (.slice Af from_.length cf) r) (hb : Below w0.heap.size w0 W') (hK : Kept W W' (fun k => some k = (Value.slice Af from_.length cf).ownBlock)) : CombX w0 W' gx cs Ax Af cx cf row r :=
  CombX.mk' (combR_kept X.hx hK (fun k hk hs => X.ne k hk.symm hs.symm)) hR ((hK.2 _ (blk_lt X.box) (fun hs => X.nf _ hs.symm rfl)).trans X.box) hb X.ne X.nx X.nf X.gw
theorem CombX.cx_ {w0 W : World} {gx : Nat} {cs : Array Value} {Ax Af : Option Addr} {cx cf : Nat} {row from_ : List Int} (X : CombX w0 W gx cs Ax Af cx cf row from_) : Kd.C (Kd.int .i64) W Ax row.length row := (Kd.R_reads' X.hx).2.2
theorem CombX.lx {w0 W : World} {gx : Nat} {cs : Array Value} {Ax Af : Option Addr} {cx cf : Nat} {row from_ : List Int} (X : CombX w0 W gx cs Ax Af cx cf row from_) : row.length ≤ cx := (Kd.R_reads' X.hx).2.1
theorem combRows_small {k : Nat} {q : Int} {rows : List (List Int)} {ps : List (List Int × List Int)} (h : combRows k q rows [] 0 = some ps) : rows.length ≤ 1048576 := by
  cases k with
  | zero => simp [combRows] at h
  | succ k =>
    simp only [combRows] at h
    by_cases c : (0 : Int) < (rows.length : Int)
    · rw [if_pos c, if_pos (Int.le_refl 0)] at h
      by_cases c4 : rows.length ≤ 1048576
      · exact c4
      · rw [if_neg c4] at h
        exact absurd h (by simp)
    · omega
theorem combGoes {P : Program} {ops : Array Oper} {Q : Exit → Act → World → Prop} {oi : Oper} {N : Option Tmp} {a : Act} {w : World} {K : Act → World → Prop} {f : FuncId} {fn : Func} {as_ : Array Operand} {ts : Array TypeId} {s : Operand} {fs : Array Value} (hf : P.funcs[f]? = some fn) (hname : (fn.name == "runtime.NumGoroutine") = false) (hb : fn.body.isSome = true) (args : Array Value)
    (hw : Region.wanted oi (yielded ops a.tmps) = true) (hN : oi.dst = N) (hop : oi.op = .call { callee := .value s, args := as_, argTypes := ts }) (hs : a.eval s = .func (.func f) #[] fs) (hargs : as_.map a.eval = args)
    (h : Calls P f (args ++ fs) w fun e w' => ∃ v, e = .returned v ∧ K (a.put N v) w') : if Region.wanted oi (yielded ops a.tmps) = true then Oper.wp P oi a w K Q else K (a.put N undef) w := by
  refine call_ f (args ++ fs) hw hN ?_ h
  have he := enters_ hf hname hb (args ++ fs) w
  unfold execOp
  simp [hop, hs, resolve, Deferred.ofValue, invoke, hargs, he]

end Go.Proofs.Ytjpbemomocccaaa.P

namespace Go.Proofs.Ytjpbemomocccaaa.P
open Go.RowKit Go.Proofs.YtjpbemomocccaaaW.PrintWords Go.Proofs.YtjpbemomocccaaaW.PrintLast Go.Proofs.YtjpbemomocccaaaW.PrintMore
attribute [local go_sem] max2_int min2_int max_two min_two max_three min_three max_four min_four
set_option linter.unusedVariables false
set_option linter.unusedSimpArgs false

/-! ### impl_Matrix_combination: function 75 (by hand) -/
def impl_Matrix_combination.f (k : Nat) (a0_0 : Int) (a0_1 : Int) (l0_2 : List (List Int)) (l1 : List Int) : Option (List Int × Bool) := combMain k a0_0 l0_2 l1
set_option maxHeartbeats 8000000 in
set_option maxRecDepth 100000 in
theorem impl_Matrix_combination.calls (k : Nat) (a0_0 : Int) (a0_1 : Int) (A0_2 : Option Addr) (c0_2 : Nat) (l0_2 : List (List Int)) (A1 : Option Addr) (c1 : Nat) (l1 : List Int) (r1 : List Int) (r2 : Bool) (w : World) (hr0_2 : Kd.C (Kd.slice 2 (Kd.int .i64)) w A0_2 l0_2.length l0_2) (hc0_2 : l0_2.length ≤ c0_2) (hr1 : Kd.C (Kd.int .i64) w A1 l1.length l1) (hc1 : l1.length ≤ c1) (h : impl_Matrix_combination.f k a0_0 a0_1 l0_2 l1 = some (r1, r2)) :
    Calls Try.prog 75 #[.agg #[.int .i64 a0_0, .int .i64 a0_1, .slice A0_2 l0_2.length c0_2], .slice A1 l1.length c1] w fun e w' => ∃ v0_ : Value, e = .returned (.tuple #[v0_, .bool r2]) ∧ Kd.R (Kd.int .i64) 2 w' w.heap.size (fun _ => True) v0_ r1 ∧ Below w.heap.size w w' := by
  have mention_ : True := by (have h0 := @CombX.mk'; have h1 := @CombX.put; have h2 := @CombX.putf; have h3 := @CombX.less; have h4 := @CombX.scx; have h5 := @CombX.scf; have h6 := @CombX.cx_; have h7 := @CombX.lx; have h8 := @CombX.drew; have h9 := @CombX.below; trivial)
  clear mention_
  have hum := Try.underlying26
  have HR := Aside0.mk hr0_2
  have HC := Aside0.mk hc0_2
  have HR1 := Aside0.mk hr1
  have HC1 := Aside0.mk hc1
  clear hr0_2 hc0_2 hr1 hc1
  go_enter Try.func75, Try.ntmps75
  unfold impl_Matrix_combination.f combMain at h
  replace h := Option.bind_eq_some_iff.mp h
  obtain ⟨ps, At1, h⟩ := h
  have A1_ := Aside0.mk At1
  have HE := Aside0.mk h
  clear At1 h
  go_wp2_with (first | ((with_reducible refine gate_dst (N := 14) rfl ?_); refine Kd.R_lit (Kd.pair (Kd.slice 2 (Kd.int .i64)) (Kd.slice 2 (Kd.int .i64))) _ 106 ?hg (N := 14) ?hd (xs := ([] : List (List Int × List Int))) (inner := []) (ok := fun k_ => w.heap.size + 1 ≤ k_) (okp := fun k_ => w.heap.size + 1 ≤ k_) ?hr ?hp (fun _ hk => hk) (by simp) (Below.refl _ _) (Nat.le_refl _) (by simp) ?_; (case hd => rfl); (case hg => rfl); (case hr => first | (go_simp; done) | (go_simp; rfl)); (case hp => exact (Reps.none _ _)); intro v14 w2 ho3 hb hg_ hnew_; clear hg_ hnew_; have BM := Aside0.mk (blk_below (g := w.heap.size) (o := .cells #[.int .i64 a0_0, .int .i64 a0_1, .slice A0_2 l0_2.length c0_2] 26 (0, 0)) (by repeat (first | exact blk_new_at (by simp) | (with_reducible refine blk_drewN ?_ _) | (with_reducible refine blk_drew ?_) | (with_reducible refine blk_alloc ?_ _))) hb); have HB : Aside0 (Below w.heap.size w w2) := ⟨below_step (by repeat (first | exact Below.refl _ _ | apply below_alloc | apply pw_below_drewN | apply below_drew1)) hb⟩; have HPt := Aside0.mk (Kd.R_lower (base' := w.heap.size) ho3 (by first | simp | (simp; omega))); obtain ⟨Ab, cb, eb, _⟩ := Kd.R_reads ho3; subst eb; clear ho3 hb; have hm0 : w2.cell? ⟨w.heap.size, 0, none⟩ = some (.int .i64 a0_0) := (blk_cell BM.out 0).trans rfl; have hm2 : w2.cell? ⟨w.heap.size, 2, none⟩ = some (.slice A0_2 l0_2.length c0_2) := (blk_cell BM.out 2).trans rfl; have hlt := blk_lt BM.out))
  obtain ⟨gB, hgB⟩ : ∃ g, g = w2.heap.size := ⟨_, rfl⟩
  have BB : Aside0 ((w2.alloc (.cells #[.slice Ab 0 cb] 104)).heap[gB]? = some (.cells #[.slice Ab 0 cb] 104 (0, 0))) := ⟨by rw [hgB]; exact blk_new _ _⟩
  have HPt2 : Aside0 (Kd.R (Kd.pair (Kd.slice 2 (Kd.int .i64)) (Kd.slice 2 (Kd.int .i64))) 106 (w2.alloc (.cells #[.slice Ab 0 cb] 104)) w.heap.size (fun k_ => w.heap.size + 1 ≤ k_ ∧ k_ ≠ gB) (.slice Ab 0 cb) []) := ⟨Kd.R_alloc (Kd.R_mono (Kd.R_bound HPt.out) (fun k_ hk_ => ⟨hk_.1, by have := hk_.2.2.1; omega⟩)) _⟩
  have HGB : Aside0 (w.heap.size + 1 ≤ gB) := ⟨by omega⟩
  clear HPt
  have HL20 : Aside0 (l0_2.length ≤ 1048576) := ⟨combRows_small A1_.out⟩
  rw [← hgB]
  clear hgB
  go_loopg [19] k (fun kq v19 w' => ∃ (i : Int) (parts : List (List Int × List Int)) (vb : Value), v19 = .int .i64 i ∧ Aside0 (combRows kq a0_0 l0_2 parts i = some ps) ∧ Aside0 (kq ≤ k) ∧ Aside0 (Kd.R (Kd.pair (Kd.slice 2 (Kd.int .i64)) (Kd.slice 2 (Kd.int .i64))) 106 w' w.heap.size (fun k_ => w.heap.size + 1 ≤ k_ ∧ k_ ≠ gB) vb parts) ∧ Aside0 (w'.heap[w.heap.size]? = some (.cells #[.int .i64 a0_0, .int .i64 a0_1, .slice A0_2 l0_2.length c0_2] 26 (0, 0))) ∧ Aside0 (w'.heap[gB]? = some (.cells #[vb] 104 (0, 0))) ∧ Aside0 (Below w.heap.size w w'))
  case atStart => exact ⟨0, [], _, rfl, A1_, ⟨Nat.le_refl _⟩, HPt2, ⟨blk_alloc BM.out _⟩, BB, ⟨below_alloc HB.out _⟩⟩
  case round =>
    clear HB BM BB HPt2 A1_ hm0 hm2 hlt
    obtain ⟨i, parts, vb, rfl, HA, HK1, HPt, BM, BB, HB⟩ := hrel
    cases gk with
    | zero => exact absurd HA.out (by simp [combRows])
    | succ k1 =>
      have H := HA.out
      clear HA
      simp only [combRows] at H
      by_cases c2 : i < (l0_2.length : Int)
      · rw [if_pos c2] at H
        by_cases c3 : 0 ≤ i
        case neg => rw [if_neg c3] at H; exact absurd H (by simp)
        rw [if_pos c3] at H
        by_cases c4 : l0_2.length ≤ 1048576
        case neg => rw [if_neg c4] at H; exact absurd H (by simp)
        rw [if_pos c4] at H
        replace H := Option.bind_eq_some_iff.mp H
        obtain ⟨r0, At, H⟩ := H
        have B1 := Aside0.mk At
        clear At
        replace H := Option.bind_eq_some_iff.mp H
        obtain ⟨x, At, H⟩ := H
        have B2 := Aside0.mk At
        clear At
        replace H := Option.bind_eq_some_iff.mp H
        obtain ⟨f, At, H⟩ := H
        have B3 := Aside0.mk At
        clear At
        have H1 := Aside0.mk H
        clear H
        obtain ⟨adr, Ar, cr, er, hxr, hlr, hir⟩ := at_L1 (Kd.C_below HR.out HB.out) i c3 c2
        cases er
        have HLR := Aside0.mk hlr
        have HIR := Aside0.mk hir
        clear hlr hir
        have hm2 : wr.cell? ⟨w.heap.size, 2, none⟩ = some (.slice (some adr) l0_2.length c0_2) := (blk_cell BM.out 2).trans rfl
        have c2b : decide (i < (l0_2.length : Int)) = true := decide_eq_true c2
        have c3b : decide (0 ≤ i) = true := decide_eq_true c3
        have CC := Aside0.mk (And.intro c3 (And.intro c2 c4))
        replace c2 := eq_true c2
        replace c3 := eq_true c3
        clear c4
        obtain ⟨zs, hzs⟩ : ∃ z : List Int, z = List.replicate l0_2.length 0 := ⟨_, rfl⟩
        have HZS := Aside0.mk hzs
        clear hzs
        go_wp2
        clear hxr hm2
        have HBr : Aside0 (Below wr.heap.size wr wr.drew) := ⟨below_drew1 (Below.refl _ _)⟩
        have BMr := Aside0.mk (blk_drew BM.out)
        refine start_ (n := 9) (S := fun w' => w'.cell? ⟨w.heap.size, 2, none⟩ = some (.slice (some adr) l0_2.length c0_2)) (ds := [8]) #[false, false, false, false, false, false, false, false, false] (by kernel_rfl) rfl rfl ((blk_cell BMr.out 2).trans rfl) (fun hHeld => ?_)
        generalize wr.drew = w5 at HBr BMr hHeld ⊢
        refine pure_ (i := 0) (N := some 24) (v := ?_) (a' := ?_) #[true, false, false, false, false, false, false, false, false] rfl rfl (by kernel_rfl) (fun _ _ _ h => h) (Or.inl ⟨by rfl, ?_⟩) ?_ ?_
        rotate_left
        · intro w'
          first | (go_simp; with_reducible rfl) | (simp [go_sem, Instr.field, asAgg] <;> with_reducible rfl)
        rotate_left
        · simp only [Act.put, List.setIfInBounds_toArray, List.set_cons_zero, List.set_cons_succ, i64_w, i32_w]
          rfl
        refine pure_ (i := 2) (N := some 26) (v := ?_) (a' := ?_) #[true, false, true, false, false, false, false, false, false] rfl rfl (by kernel_rfl) (fun _ _ _ h => h) (Or.inl ⟨by rfl, ?_⟩) ?_ ?_
        rotate_left
        · intro w'
          first | (go_simp; with_reducible rfl) | (simp [go_sem, Instr.field, asAgg] <;> with_reducible rfl)
        rotate_left
        · simp only [Act.put, List.setIfInBounds_toArray, List.set_cons_zero, List.set_cons_succ, i64_w, i32_w]
          rfl
        refine take_ (i := 3) (N := some 27) (v := ?_) (a' := ?_) #[true, false, true, true, false, false, false, false, false] rfl rfl (by kernel_rfl) (fun _ _ _ h => h) (Or.inl ⟨by rfl, ?_⟩) hHeld ?_ ?_
        rotate_left
        · intro w' s0
          go_simp
          with_reducible rfl
        rotate_left
        · simp only [Act.put, List.setIfInBounds_toArray, List.set_cons_zero, List.set_cons_succ, i64_w, i32_w]
          rfl
        refine pure_ (i := 4) (N := some 28) (v := ?_) (a' := ?_) #[true, false, true, true, true, false, false, false, false] rfl rfl (by kernel_rfl) (fun _ _ _ h => h) (Or.inl ⟨by rfl, ?_⟩) ?_ ?_
        rotate_left
        · intro w'
          first | (go_simp; with_reducible rfl) | (simp [go_sem, Instr.field, asAgg] <;> with_reducible rfl)
        rotate_left
        · simp only [Act.put, List.setIfInBounds_toArray, List.set_cons_zero, List.set_cons_succ, i64_w, i32_w]
          rfl
        refine join_ (σ := Value × Value × Nat) 1 #[true, true, true, true, true, true, true, true, false] (fun s_ => [(25, s_.1), (29, s_.2.1), (30, .agg #[s_.1, s_.2.1]), (10, .pointer (some ⟨s_.2.2, 0, none⟩))]) (fun s_ w' => (w'.cell? ⟨w.heap.size, 2, none⟩ = some (.slice (some adr) l0_2.length c0_2)) ∧ (Kd.R (Kd.int .i64) 2 w' wr.heap.size (fun _ => True) s_.1 r0) ∧ (Kd.R (Kd.int .i64) 2 w' wr.heap.size (fun _ => True) s_.2.1 zs) ∧ (w'.heap[s_.2.2]? = some (.cells #[.slice none 0 0, .slice none 0 0] 106 (0, 0))) ∧ (wr.heap.size ≤ s_.2.2) ∧ (∀ k, (s_.1 : Value).ownBlock = some k → (s_.2.1 : Value).ownBlock ≠ some k) ∧ (∀ k, (s_.1 : Value).ownBlock = some k → k ≠ s_.2.2) ∧ (∀ k, (s_.2.1 : Value).ownBlock = some k → k ≠ s_.2.2) ∧ (Below wr.heap.size wr w')) ?_ ?_
        rotate_left
        · intro hCont
          refine three_ (i := 1) (j := 5) (k := 7) (Ni := some 25) (Nj := some 29) (Nk := some 10) #[true, true, true, true, true, false, false, false, false] #[true, false, true, true, true, true, false, false, false] #[true, false, true, true, true, false, false, true, false] rfl rfl rfl rfl rfl rfl (by kernel_rfl) (by decide) (by decide) (by decide) (fun K hK => ?_) (fun K hK => ?_) (fun K hK => ?_)
          · skip
            refine goes_ Try.func64 (by kernel_rfl) rfl #[.slice Ar (rd_L1 l0_2 i).length cr] (by rfl) rfl rfl (by simp only [List.map_toArray, List.map_cons, List.map_nil]; rfl) ?_
            with_reducible refine (slices_Clone_int64_int64.calls Ar cr (rd_L1 l0_2 i) r0 _ (Kd.C_below HIR.out HBr.out) HLR.out B1.out).mono ?_
            rintro e wc ⟨vc, rfl, ho, hb⟩
            refine ⟨_, rfl, ?_⟩
            obtain ⟨Avc, cvc, evc⟩ := Kd.R_slice ho
            subst evc
            have HVC : Aside0 (Kd.R (Kd.int .i64) 2 wc wr.heap.size (fun _ => True) (.slice Avc r0.length cvc) r0) := ⟨Kd.R_lower ho (below_size HBr.out)⟩
            have HB2 := Aside0.mk (below_step HBr.out hb)
            have BM2 := Aside0.mk (blk_below BMr.out hb)
            clear HBr BMr
            have HBr := HB2
            have BMr := BM2
            clear HB2 BM2
            refine hK.out _ _ ((blk_cell BMr.out 2).trans rfl) (fun hHeld => ?_)
            clear hK K
            refine norm_ (a' := ?_) ?_ ?_
            rotate_left
            · show Act.put _ (some 25) _ = _
              simp only [Act.put, List.setIfInBounds_toArray, List.set_cons_zero, List.set_cons_succ, i64_w, i32_w]
              rfl
            refine two_ (i := 5) (j := 7) (Ni := some 29) (Nj := some 10) #[true, true, true, true, true, true, false, false, false] #[true, true, true, true, true, false, false, true, false] rfl rfl rfl rfl (by kernel_rfl) (by decide) (by decide) (fun K hK => ?_) (fun K hK => ?_)
            · skip
              refine Kd.R_make_step (Kd.int .i64) _ 2 (by rfl) (N := 29) rfl 35 _ _ rfl (l0_2.length : Int) rfl rfl Try.underlying35 (.int .i64 0) 8 info2 rfl (by decide) (by omega) 0 (ok := fun _ => True) (okp := fun _ => True) rfl (fun _ hk => hk) trivial (by omega) (by have := CC.out.2.2; simp only [Int.toNat_natCast]; omega) (Below.refl _ _) (Nat.le_refl _) ?_
              intro vm wm1 ho hb hg_ hnew_
              clear hg_ hnew_
              rw [Int.toNat_natCast, ← HZS.out] at ho
              obtain ⟨Avm, cvm, evm⟩ := Kd.R_slice ho
              subst evm
              have hcm : Aside0 (∀ k, ((.slice Avc r0.length cvc) : Value).ownBlock = some k → ((.slice Avm zs.length cvm) : Value).ownBlock ≠ some k) := ⟨fun k h1 h2 => by have := Kd.R_lt HVC.out k h1; have := Kd.R_base ho k h2; omega⟩
              have HVC2 := Aside0.mk (Kd.R_below HVC.out hb)
              clear HVC
              have HVC := HVC2
              clear HVC2
              have HVM : Aside0 (Kd.R (Kd.int .i64) 2 wm1 wr.heap.size (fun _ => True) (.slice Avm zs.length cvm) zs) := ⟨Kd.R_lower ho (below_size HBr.out)⟩
              have HB2 := Aside0.mk (below_step HBr.out hb)
              have BM2 := Aside0.mk (blk_below BMr.out hb)
              clear HBr BMr
              have HBr := HB2
              have BMr := BM2
              clear HB2 BM2
              refine hK.out _ _ ((blk_cell BMr.out 2).trans rfl) (fun hHeld => ?_)
              clear hK K
              refine norm_ (a' := ?_) ?_ ?_
              rotate_left
              · show Act.put _ (some 29) _ = _
                simp only [Act.put, List.setIfInBounds_toArray, List.set_cons_zero, List.set_cons_succ, i64_w, i32_w]
                rfl
              refine pure_ (i := 6) (N := some 30) (v := ?_) (a' := ?_) #[true, true, true, true, true, true, true, false, false] rfl rfl (by kernel_rfl) (fun _ _ _ h => h) (Or.inl ⟨by rfl, ?_⟩) ?_ ?_
              rotate_left
              · intro w'
                first | (go_simp; with_reducible rfl) | (simp [go_sem, Instr.field, asAgg] <;> with_reducible rfl)
              rotate_left
              · simp only [Act.put, List.setIfInBounds_toArray, List.set_cons_zero, List.set_cons_succ, i64_w, i32_w]
                rfl
              refine one_ (i := 7) (N := some 10) #[true, true, true, true, true, true, true, true, false] rfl rfl (by kernel_rfl) (by decide) (fun K hK => ?_)
              refine box_step (by rfl) (N := 10) rfl (cs := #[.slice none 0 0, .slice none 0 0]) (t := 106) ?_ ?_
              · first | (go_simp; done) | (go_simp; rfl)
              intro gx hgx wx15 hbox hb
              have hcx : Aside0 (∀ k, ((.slice Avc r0.length cvc) : Value).ownBlock = some k → k ≠ gx) := ⟨fun k h1 h2 => by have := Kd.R_lt HVC.out k h1; omega⟩
              have HVC2 := Aside0.mk (Kd.R_below HVC.out hb)
              clear HVC
              have HVC := HVC2
              clear HVC2
              have hmx : Aside0 (∀ k, ((.slice Avm zs.length cvm) : Value).ownBlock = some k → k ≠ gx) := ⟨fun k h1 h2 => by have := Kd.R_lt HVM.out k h1; omega⟩
              have HVM2 := Aside0.mk (Kd.R_below HVM.out hb)
              clear HVM
              have HVM := HVM2
              clear HVM2
              have HGX := Aside0.mk hbox
              have HGW : Aside0 (wr.heap.size ≤ gx) := ⟨by rw [hgx]; exact (below_size HBr.out)⟩
              have HB2 := Aside0.mk (below_step HBr.out hb)
              have BM2 := Aside0.mk (blk_below BMr.out hb)
              clear HBr BMr
              have HBr := HB2
              have BMr := BM2
              clear HB2 BM2
              refine hK.out _ _ ((blk_cell BMr.out 2).trans rfl) (fun hHeld => ?_)
              clear hK K
              refine norm_ (a' := ?_) ?_ ?_
              rotate_left
              · show Act.put _ (some 10) _ = _
                simp only [Act.put, List.setIfInBounds_toArray, List.set_cons_zero, List.set_cons_succ, i64_w, i32_w]
                rfl
              exact norm_ (by first | (simp only [putAll, Act.put, List.setIfInBounds_toArray, List.set_cons_zero, List.set_cons_succ]; done) | (simp only [putAll, Act.put, List.setIfInBounds_toArray, List.set_cons_zero, List.set_cons_succ]; rfl)) (hCont ((.slice Avc r0.length cvc), (.slice Avm zs.length cvm), gx) _ ⟨(blk_cell BMr.out 2).trans rfl, HVC.out, HVM.out, HGX.out, HGW.out, hcm.out, hcx.out, hmx.out, HBr.out⟩)
            · skip
              refine box_step (by rfl) (N := 10) rfl (cs := #[.slice none 0 0, .slice none 0 0]) (t := 106) ?_ ?_
              · first | (go_simp; done) | (go_simp; rfl)
              intro gx hgx wx1 hbox hb
              have hcx : Aside0 (∀ k, ((.slice Avc r0.length cvc) : Value).ownBlock = some k → k ≠ gx) := ⟨fun k h1 h2 => by have := Kd.R_lt HVC.out k h1; omega⟩
              have HVC2 := Aside0.mk (Kd.R_below HVC.out hb)
              clear HVC
              have HVC := HVC2
              clear HVC2
              have HGX := Aside0.mk hbox
              have HGW : Aside0 (wr.heap.size ≤ gx) := ⟨by rw [hgx]; exact (below_size HBr.out)⟩
              have HB2 := Aside0.mk (below_step HBr.out hb)
              have BM2 := Aside0.mk (blk_below BMr.out hb)
              clear HBr BMr
              have HBr := HB2
              have BMr := BM2
              clear HB2 BM2
              refine hK.out _ _ ((blk_cell BMr.out 2).trans rfl) (fun hHeld => ?_)
              clear hK K
              refine norm_ (a' := ?_) ?_ ?_
              rotate_left
              · show Act.put _ (some 10) _ = _
                simp only [Act.put, List.setIfInBounds_toArray, List.set_cons_zero, List.set_cons_succ, i64_w, i32_w]
                rfl
              refine one_ (i := 5) (N := some 29) #[true, true, true, true, true, true, false, true, false] rfl rfl (by kernel_rfl) (by decide) (fun K hK => ?_)
              refine Kd.R_make_step (Kd.int .i64) _ 2 (by rfl) (N := 29) rfl 35 _ _ rfl (l0_2.length : Int) rfl rfl Try.underlying35 (.int .i64 0) 8 info2 rfl (by decide) (by omega) 0 (ok := fun _ => True) (okp := fun _ => True) rfl (fun _ hk => hk) trivial (by omega) (by have := CC.out.2.2; simp only [Int.toNat_natCast]; omega) (Below.refl _ _) (Nat.le_refl _) ?_
              intro vm wm17 ho hb hg_ hnew_
              clear hg_ hnew_
              rw [Int.toNat_natCast, ← HZS.out] at ho
              obtain ⟨Avm, cvm, evm⟩ := Kd.R_slice ho
              subst evm
              have hcm : Aside0 (∀ k, ((.slice Avc r0.length cvc) : Value).ownBlock = some k → ((.slice Avm zs.length cvm) : Value).ownBlock ≠ some k) := ⟨fun k h1 h2 => by have := Kd.R_lt HVC.out k h1; have := Kd.R_base ho k h2; omega⟩
              have HVC2 := Aside0.mk (Kd.R_below HVC.out hb)
              clear HVC
              have HVC := HVC2
              clear HVC2
              have hmx : Aside0 (∀ k, ((.slice Avm zs.length cvm) : Value).ownBlock = some k → k ≠ gx) := ⟨fun k h1 h2 => by have := blk_lt HGX.out; have := Kd.R_base ho k h1; omega⟩
              have HGX2 := Aside0.mk (blk_below HGX.out hb)
              clear HGX
              have HGX := HGX2
              clear HGX2
              have HVM : Aside0 (Kd.R (Kd.int .i64) 2 wm17 wr.heap.size (fun _ => True) (.slice Avm zs.length cvm) zs) := ⟨Kd.R_lower ho (below_size HBr.out)⟩
              have HB2 := Aside0.mk (below_step HBr.out hb)
              have BM2 := Aside0.mk (blk_below BMr.out hb)
              clear HBr BMr
              have HBr := HB2
              have BMr := BM2
              clear HB2 BM2
              refine hK.out _ _ ((blk_cell BMr.out 2).trans rfl) (fun hHeld => ?_)
              clear hK K
              refine norm_ (a' := ?_) ?_ ?_
              rotate_left
              · show Act.put _ (some 29) _ = _
                simp only [Act.put, List.setIfInBounds_toArray, List.set_cons_zero, List.set_cons_succ, i64_w, i32_w]
                rfl
              refine pure_ (i := 6) (N := some 30) (v := ?_) (a' := ?_) #[true, true, true, true, true, true, true, true, false] rfl rfl (by kernel_rfl) (fun _ _ _ h => h) (Or.inl ⟨by rfl, ?_⟩) ?_ ?_
              rotate_left
              · intro w'
                first | (go_simp; with_reducible rfl) | (simp [go_sem, Instr.field, asAgg] <;> with_reducible rfl)
              rotate_left
              · simp only [Act.put, List.setIfInBounds_toArray, List.set_cons_zero, List.set_cons_succ, i64_w, i32_w]
                rfl
              exact norm_ (by first | (simp only [putAll, Act.put, List.setIfInBounds_toArray, List.set_cons_zero, List.set_cons_succ]; done) | (simp only [putAll, Act.put, List.setIfInBounds_toArray, List.set_cons_zero, List.set_cons_succ]; rfl)) (hCont ((.slice Avc r0.length cvc), (.slice Avm zs.length cvm), gx) _ ⟨(blk_cell BMr.out 2).trans rfl, HVC.out, HVM.out, HGX.out, HGW.out, hcm.out, hcx.out, hmx.out, HBr.out⟩)
          · skip
            refine Kd.R_make_step (Kd.int .i64) _ 2 (by rfl) (N := 29) rfl 35 _ _ rfl (l0_2.length : Int) rfl rfl Try.underlying35 (.int .i64 0) 8 info2 rfl (by decide) (by omega) 0 (ok := fun _ => True) (okp := fun _ => True) rfl (fun _ hk => hk) trivial (by omega) (by have := CC.out.2.2; simp only [Int.toNat_natCast]; omega) (Below.refl _ _) (Nat.le_refl _) ?_
            intro vm wm ho hb hg_ hnew_
            clear hg_ hnew_
            rw [Int.toNat_natCast, ← HZS.out] at ho
            obtain ⟨Avm, cvm, evm⟩ := Kd.R_slice ho
            subst evm
            have HVM : Aside0 (Kd.R (Kd.int .i64) 2 wm wr.heap.size (fun _ => True) (.slice Avm zs.length cvm) zs) := ⟨Kd.R_lower ho (below_size HBr.out)⟩
            have HB2 := Aside0.mk (below_step HBr.out hb)
            have BM2 := Aside0.mk (blk_below BMr.out hb)
            clear HBr BMr
            have HBr := HB2
            have BMr := BM2
            clear HB2 BM2
            refine hK.out _ _ ((blk_cell BMr.out 2).trans rfl) (fun hHeld => ?_)
            clear hK K
            refine norm_ (a' := ?_) ?_ ?_
            rotate_left
            · show Act.put _ (some 29) _ = _
              simp only [Act.put, List.setIfInBounds_toArray, List.set_cons_zero, List.set_cons_succ, i64_w, i32_w]
              rfl
            refine two_ (i := 1) (j := 7) (Ni := some 25) (Nj := some 10) #[true, true, true, true, true, true, false, false, false] #[true, false, true, true, true, true, false, true, false] rfl rfl rfl rfl (by kernel_rfl) (by decide) (by decide) (fun K hK => ?_) (fun K hK => ?_)
            · skip
              refine goes_ Try.func64 (by kernel_rfl) rfl #[.slice Ar (rd_L1 l0_2 i).length cr] (by rfl) rfl rfl (by simp only [List.map_toArray, List.map_cons, List.map_nil]; rfl) ?_
              with_reducible refine (slices_Clone_int64_int64.calls Ar cr (rd_L1 l0_2 i) r0 _ (Kd.C_below HIR.out HBr.out) HLR.out B1.out).mono ?_
              rintro e wc5 ⟨vc, rfl, ho, hb⟩
              refine ⟨_, rfl, ?_⟩
              obtain ⟨Avc, cvc, evc⟩ := Kd.R_slice ho
              subst evc
              have hcm : Aside0 (∀ k, ((.slice Avc r0.length cvc) : Value).ownBlock = some k → ((.slice Avm zs.length cvm) : Value).ownBlock ≠ some k) := ⟨fun k h1 h2 => by have := Kd.R_lt HVM.out k h2; have := Kd.R_base ho k h1; omega⟩
              have HVM2 := Aside0.mk (Kd.R_below HVM.out hb)
              clear HVM
              have HVM := HVM2
              clear HVM2
              have HVC : Aside0 (Kd.R (Kd.int .i64) 2 wc5 wr.heap.size (fun _ => True) (.slice Avc r0.length cvc) r0) := ⟨Kd.R_lower ho (below_size HBr.out)⟩
              have HB2 := Aside0.mk (below_step HBr.out hb)
              have BM2 := Aside0.mk (blk_below BMr.out hb)
              clear HBr BMr
              have HBr := HB2
              have BMr := BM2
              clear HB2 BM2
              refine hK.out _ _ ((blk_cell BMr.out 2).trans rfl) (fun hHeld => ?_)
              clear hK K
              refine norm_ (a' := ?_) ?_ ?_
              rotate_left
              · show Act.put _ (some 25) _ = _
                simp only [Act.put, List.setIfInBounds_toArray, List.set_cons_zero, List.set_cons_succ, i64_w, i32_w]
                rfl
              refine pure_ (i := 6) (N := some 30) (v := ?_) (a' := ?_) #[true, true, true, true, true, true, true, false, false] rfl rfl (by kernel_rfl) (fun _ _ _ h => h) (Or.inl ⟨by rfl, ?_⟩) ?_ ?_
              rotate_left
              · intro w'
                first | (go_simp; with_reducible rfl) | (simp [go_sem, Instr.field, asAgg] <;> with_reducible rfl)
              rotate_left
              · simp only [Act.put, List.setIfInBounds_toArray, List.set_cons_zero, List.set_cons_succ, i64_w, i32_w]
                rfl
              refine one_ (i := 7) (N := some 10) #[true, true, true, true, true, true, true, true, false] rfl rfl (by kernel_rfl) (by decide) (fun K hK => ?_)
              refine box_step (by rfl) (N := 10) rfl (cs := #[.slice none 0 0, .slice none 0 0]) (t := 106) ?_ ?_
              · first | (go_simp; done) | (go_simp; rfl)
              intro gx hgx wx51 hbox hb
              have hmx : Aside0 (∀ k, ((.slice Avm zs.length cvm) : Value).ownBlock = some k → k ≠ gx) := ⟨fun k h1 h2 => by have := Kd.R_lt HVM.out k h1; omega⟩
              have HVM2 := Aside0.mk (Kd.R_below HVM.out hb)
              clear HVM
              have HVM := HVM2
              clear HVM2
              have hcx : Aside0 (∀ k, ((.slice Avc r0.length cvc) : Value).ownBlock = some k → k ≠ gx) := ⟨fun k h1 h2 => by have := Kd.R_lt HVC.out k h1; omega⟩
              have HVC2 := Aside0.mk (Kd.R_below HVC.out hb)
              clear HVC
              have HVC := HVC2
              clear HVC2
              have HGX := Aside0.mk hbox
              have HGW : Aside0 (wr.heap.size ≤ gx) := ⟨by rw [hgx]; exact (below_size HBr.out)⟩
              have HB2 := Aside0.mk (below_step HBr.out hb)
              have BM2 := Aside0.mk (blk_below BMr.out hb)
              clear HBr BMr
              have HBr := HB2
              have BMr := BM2
              clear HB2 BM2
              refine hK.out _ _ ((blk_cell BMr.out 2).trans rfl) (fun hHeld => ?_)
              clear hK K
              refine norm_ (a' := ?_) ?_ ?_
              rotate_left
              · show Act.put _ (some 10) _ = _
                simp only [Act.put, List.setIfInBounds_toArray, List.set_cons_zero, List.set_cons_succ, i64_w, i32_w]
                rfl
              exact norm_ (by first | (simp only [putAll, Act.put, List.setIfInBounds_toArray, List.set_cons_zero, List.set_cons_succ]; done) | (simp only [putAll, Act.put, List.setIfInBounds_toArray, List.set_cons_zero, List.set_cons_succ]; rfl)) (hCont ((.slice Avc r0.length cvc), (.slice Avm zs.length cvm), gx) _ ⟨(blk_cell BMr.out 2).trans rfl, HVC.out, HVM.out, HGX.out, HGW.out, hcm.out, hcx.out, hmx.out, HBr.out⟩)
            · skip
              refine box_step (by rfl) (N := 10) rfl (cs := #[.slice none 0 0, .slice none 0 0]) (t := 106) ?_ ?_
              · first | (go_simp; done) | (go_simp; rfl)
              intro gx hgx wx5 hbox hb
              have hmx : Aside0 (∀ k, ((.slice Avm zs.length cvm) : Value).ownBlock = some k → k ≠ gx) := ⟨fun k h1 h2 => by have := Kd.R_lt HVM.out k h1; omega⟩
              have HVM2 := Aside0.mk (Kd.R_below HVM.out hb)
              clear HVM
              have HVM := HVM2
              clear HVM2
              have HGX := Aside0.mk hbox
              have HGW : Aside0 (wr.heap.size ≤ gx) := ⟨by rw [hgx]; exact (below_size HBr.out)⟩
              have HB2 := Aside0.mk (below_step HBr.out hb)
              have BM2 := Aside0.mk (blk_below BMr.out hb)
              clear HBr BMr
              have HBr := HB2
              have BMr := BM2
              clear HB2 BM2
              refine hK.out _ _ ((blk_cell BMr.out 2).trans rfl) (fun hHeld => ?_)
              clear hK K
              refine norm_ (a' := ?_) ?_ ?_
              rotate_left
              · show Act.put _ (some 10) _ = _
                simp only [Act.put, List.setIfInBounds_toArray, List.set_cons_zero, List.set_cons_succ, i64_w, i32_w]
                rfl
              refine one_ (i := 1) (N := some 25) #[true, true, true, true, true, true, false, true, false] rfl rfl (by kernel_rfl) (by decide) (fun K hK => ?_)
              refine goes_ Try.func64 (by kernel_rfl) rfl #[.slice Ar (rd_L1 l0_2 i).length cr] (by rfl) rfl rfl (by simp only [List.map_toArray, List.map_cons, List.map_nil]; rfl) ?_
              with_reducible refine (slices_Clone_int64_int64.calls Ar cr (rd_L1 l0_2 i) r0 _ (Kd.C_below HIR.out HBr.out) HLR.out B1.out).mono ?_
              rintro e wc57 ⟨vc, rfl, ho, hb⟩
              refine ⟨_, rfl, ?_⟩
              obtain ⟨Avc, cvc, evc⟩ := Kd.R_slice ho
              subst evc
              have hcm : Aside0 (∀ k, ((.slice Avc r0.length cvc) : Value).ownBlock = some k → ((.slice Avm zs.length cvm) : Value).ownBlock ≠ some k) := ⟨fun k h1 h2 => by have := Kd.R_lt HVM.out k h2; have := Kd.R_base ho k h1; omega⟩
              have HVM2 := Aside0.mk (Kd.R_below HVM.out hb)
              clear HVM
              have HVM := HVM2
              clear HVM2
              have hcx : Aside0 (∀ k, ((.slice Avc r0.length cvc) : Value).ownBlock = some k → k ≠ gx) := ⟨fun k h1 h2 => by have := blk_lt HGX.out; have := Kd.R_base ho k h1; omega⟩
              have HGX2 := Aside0.mk (blk_below HGX.out hb)
              clear HGX
              have HGX := HGX2
              clear HGX2
              have HVC : Aside0 (Kd.R (Kd.int .i64) 2 wc57 wr.heap.size (fun _ => True) (.slice Avc r0.length cvc) r0) := ⟨Kd.R_lower ho (below_size HBr.out)⟩
              have HB2 := Aside0.mk (below_step HBr.out hb)
              have BM2 := Aside0.mk (blk_below BMr.out hb)
              clear HBr BMr
              have HBr := HB2
              have BMr := BM2
              clear HB2 BM2
              refine hK.out _ _ ((blk_cell BMr.out 2).trans rfl) (fun hHeld => ?_)
              clear hK K
              refine norm_ (a' := ?_) ?_ ?_
              rotate_left
              · show Act.put _ (some 25) _ = _
                simp only [Act.put, List.setIfInBounds_toArray, List.set_cons_zero, List.set_cons_succ, i64_w, i32_w]
                rfl
              refine pure_ (i := 6) (N := some 30) (v := ?_) (a' := ?_) #[true, true, true, true, true, true, true, true, false] rfl rfl (by kernel_rfl) (fun _ _ _ h => h) (Or.inl ⟨by rfl, ?_⟩) ?_ ?_
              rotate_left
              · intro w'
                first | (go_simp; with_reducible rfl) | (simp [go_sem, Instr.field, asAgg] <;> with_reducible rfl)
              rotate_left
              · simp only [Act.put, List.setIfInBounds_toArray, List.set_cons_zero, List.set_cons_succ, i64_w, i32_w]
                rfl
              exact norm_ (by first | (simp only [putAll, Act.put, List.setIfInBounds_toArray, List.set_cons_zero, List.set_cons_succ]; done) | (simp only [putAll, Act.put, List.setIfInBounds_toArray, List.set_cons_zero, List.set_cons_succ]; rfl)) (hCont ((.slice Avc r0.length cvc), (.slice Avm zs.length cvm), gx) _ ⟨(blk_cell BMr.out 2).trans rfl, HVC.out, HVM.out, HGX.out, HGW.out, hcm.out, hcx.out, hmx.out, HBr.out⟩)
          · skip
            refine box_step (by rfl) (N := 10) rfl (cs := #[.slice none 0 0, .slice none 0 0]) (t := 106) ?_ ?_
            · first | (go_simp; done) | (go_simp; rfl)
            intro gx hgx wx hbox hb
            have HGX := Aside0.mk hbox
            have HGW : Aside0 (wr.heap.size ≤ gx) := ⟨by rw [hgx]; exact (below_size HBr.out)⟩
            have HB2 := Aside0.mk (below_step HBr.out hb)
            have BM2 := Aside0.mk (blk_below BMr.out hb)
            clear HBr BMr
            have HBr := HB2
            have BMr := BM2
            clear HB2 BM2
            refine hK.out _ _ ((blk_cell BMr.out 2).trans rfl) (fun hHeld => ?_)
            clear hK K
            refine norm_ (a' := ?_) ?_ ?_
            rotate_left
            · show Act.put _ (some 10) _ = _
              simp only [Act.put, List.setIfInBounds_toArray, List.set_cons_zero, List.set_cons_succ, i64_w, i32_w]
              rfl
            refine two_ (i := 1) (j := 5) (Ni := some 25) (Nj := some 29) #[true, true, true, true, true, false, false, true, false] #[true, false, true, true, true, true, false, true, false] rfl rfl rfl rfl (by kernel_rfl) (by decide) (by decide) (fun K hK => ?_) (fun K hK => ?_)
            · skip
              refine goes_ Try.func64 (by kernel_rfl) rfl #[.slice Ar (rd_L1 l0_2 i).length cr] (by rfl) rfl rfl (by simp only [List.map_toArray, List.map_cons, List.map_nil]; rfl) ?_
              with_reducible refine (slices_Clone_int64_int64.calls Ar cr (rd_L1 l0_2 i) r0 _ (Kd.C_below HIR.out HBr.out) HLR.out B1.out).mono ?_
              rintro e wc7 ⟨vc, rfl, ho, hb⟩
              refine ⟨_, rfl, ?_⟩
              obtain ⟨Avc, cvc, evc⟩ := Kd.R_slice ho
              subst evc
              have hcx : Aside0 (∀ k, ((.slice Avc r0.length cvc) : Value).ownBlock = some k → k ≠ gx) := ⟨fun k h1 h2 => by have := blk_lt HGX.out; have := Kd.R_base ho k h1; omega⟩
              have HGX2 := Aside0.mk (blk_below HGX.out hb)
              clear HGX
              have HGX := HGX2
              clear HGX2
              have HVC : Aside0 (Kd.R (Kd.int .i64) 2 wc7 wr.heap.size (fun _ => True) (.slice Avc r0.length cvc) r0) := ⟨Kd.R_lower ho (below_size HBr.out)⟩
              have HB2 := Aside0.mk (below_step HBr.out hb)
              have BM2 := Aside0.mk (blk_below BMr.out hb)
              clear HBr BMr
              have HBr := HB2
              have BMr := BM2
              clear HB2 BM2
              refine hK.out _ _ ((blk_cell BMr.out 2).trans rfl) (fun hHeld => ?_)
              clear hK K
              refine norm_ (a' := ?_) ?_ ?_
              rotate_left
              · show Act.put _ (some 25) _ = _
                simp only [Act.put, List.setIfInBounds_toArray, List.set_cons_zero, List.set_cons_succ, i64_w, i32_w]
                rfl
              refine one_ (i := 5) (N := some 29) #[true, true, true, true, true, true, false, true, false] rfl rfl (by kernel_rfl) (by decide) (fun K hK => ?_)
              refine Kd.R_make_step (Kd.int .i64) _ 2 (by rfl) (N := 29) rfl 35 _ _ rfl (l0_2.length : Int) rfl rfl Try.underlying35 (.int .i64 0) 8 info2 rfl (by decide) (by omega) 0 (ok := fun _ => True) (okp := fun _ => True) rfl (fun _ hk => hk) trivial (by omega) (by have := CC.out.2.2; simp only [Int.toNat_natCast]; omega) (Below.refl _ _) (Nat.le_refl _) ?_
              intro vm wm71 ho hb hg_ hnew_
              clear hg_ hnew_
              rw [Int.toNat_natCast, ← HZS.out] at ho
              obtain ⟨Avm, cvm, evm⟩ := Kd.R_slice ho
              subst evm
              have hmx : Aside0 (∀ k, ((.slice Avm zs.length cvm) : Value).ownBlock = some k → k ≠ gx) := ⟨fun k h1 h2 => by have := blk_lt HGX.out; have := Kd.R_base ho k h1; omega⟩
              have HGX2 := Aside0.mk (blk_below HGX.out hb)
              clear HGX
              have HGX := HGX2
              clear HGX2
              have hcm : Aside0 (∀ k, ((.slice Avc r0.length cvc) : Value).ownBlock = some k → ((.slice Avm zs.length cvm) : Value).ownBlock ≠ some k) := ⟨fun k h1 h2 => by have := Kd.R_lt HVC.out k h1; have := Kd.R_base ho k h2; omega⟩
              have HVC2 := Aside0.mk (Kd.R_below HVC.out hb)
              clear HVC
              have HVC := HVC2
              clear HVC2
              have HVM : Aside0 (Kd.R (Kd.int .i64) 2 wm71 wr.heap.size (fun _ => True) (.slice Avm zs.length cvm) zs) := ⟨Kd.R_lower ho (below_size HBr.out)⟩
              have HB2 := Aside0.mk (below_step HBr.out hb)
              have BM2 := Aside0.mk (blk_below BMr.out hb)
              clear HBr BMr
              have HBr := HB2
              have BMr := BM2
              clear HB2 BM2
              refine hK.out _ _ ((blk_cell BMr.out 2).trans rfl) (fun hHeld => ?_)
              clear hK K
              refine norm_ (a' := ?_) ?_ ?_
              rotate_left
              · show Act.put _ (some 29) _ = _
                simp only [Act.put, List.setIfInBounds_toArray, List.set_cons_zero, List.set_cons_succ, i64_w, i32_w]
                rfl
              refine pure_ (i := 6) (N := some 30) (v := ?_) (a' := ?_) #[true, true, true, true, true, true, true, true, false] rfl rfl (by kernel_rfl) (fun _ _ _ h => h) (Or.inl ⟨by rfl, ?_⟩) ?_ ?_
              rotate_left
              · intro w'
                first | (go_simp; with_reducible rfl) | (simp [go_sem, Instr.field, asAgg] <;> with_reducible rfl)
              rotate_left
              · simp only [Act.put, List.setIfInBounds_toArray, List.set_cons_zero, List.set_cons_succ, i64_w, i32_w]
                rfl
              exact norm_ (by first | (simp only [putAll, Act.put, List.setIfInBounds_toArray, List.set_cons_zero, List.set_cons_succ]; done) | (simp only [putAll, Act.put, List.setIfInBounds_toArray, List.set_cons_zero, List.set_cons_succ]; rfl)) (hCont ((.slice Avc r0.length cvc), (.slice Avm zs.length cvm), gx) _ ⟨(blk_cell BMr.out 2).trans rfl, HVC.out, HVM.out, HGX.out, HGW.out, hcm.out, hcx.out, hmx.out, HBr.out⟩)
            · skip
              refine Kd.R_make_step (Kd.int .i64) _ 2 (by rfl) (N := 29) rfl 35 _ _ rfl (l0_2.length : Int) rfl rfl Try.underlying35 (.int .i64 0) 8 info2 rfl (by decide) (by omega) 0 (ok := fun _ => True) (okp := fun _ => True) rfl (fun _ hk => hk) trivial (by omega) (by have := CC.out.2.2; simp only [Int.toNat_natCast]; omega) (Below.refl _ _) (Nat.le_refl _) ?_
              intro vm wm7 ho hb hg_ hnew_
              clear hg_ hnew_
              rw [Int.toNat_natCast, ← HZS.out] at ho
              obtain ⟨Avm, cvm, evm⟩ := Kd.R_slice ho
              subst evm
              have hmx : Aside0 (∀ k, ((.slice Avm zs.length cvm) : Value).ownBlock = some k → k ≠ gx) := ⟨fun k h1 h2 => by have := blk_lt HGX.out; have := Kd.R_base ho k h1; omega⟩
              have HGX2 := Aside0.mk (blk_below HGX.out hb)
              clear HGX
              have HGX := HGX2
              clear HGX2
              have HVM : Aside0 (Kd.R (Kd.int .i64) 2 wm7 wr.heap.size (fun _ => True) (.slice Avm zs.length cvm) zs) := ⟨Kd.R_lower ho (below_size HBr.out)⟩
              have HB2 := Aside0.mk (below_step HBr.out hb)
              have BM2 := Aside0.mk (blk_below BMr.out hb)
              clear HBr BMr
              have HBr := HB2
              have BMr := BM2
              clear HB2 BM2
              refine hK.out _ _ ((blk_cell BMr.out 2).trans rfl) (fun hHeld => ?_)
              clear hK K
              refine norm_ (a' := ?_) ?_ ?_
              rotate_left
              · show Act.put _ (some 29) _ = _
                simp only [Act.put, List.setIfInBounds_toArray, List.set_cons_zero, List.set_cons_succ, i64_w, i32_w]
                rfl
              refine one_ (i := 1) (N := some 25) #[true, true, true, true, true, true, false, true, false] rfl rfl (by kernel_rfl) (by decide) (fun K hK => ?_)
              refine goes_ Try.func64 (by kernel_rfl) rfl #[.slice Ar (rd_L1 l0_2 i).length cr] (by rfl) rfl rfl (by simp only [List.map_toArray, List.map_cons, List.map_nil]; rfl) ?_
              with_reducible refine (slices_Clone_int64_int64.calls Ar cr (rd_L1 l0_2 i) r0 _ (Kd.C_below HIR.out HBr.out) HLR.out B1.out).mono ?_
              rintro e wc75 ⟨vc, rfl, ho, hb⟩
              refine ⟨_, rfl, ?_⟩
              obtain ⟨Avc, cvc, evc⟩ := Kd.R_slice ho
              subst evc
              have hcx : Aside0 (∀ k, ((.slice Avc r0.length cvc) : Value).ownBlock = some k → k ≠ gx) := ⟨fun k h1 h2 => by have := blk_lt HGX.out; have := Kd.R_base ho k h1; omega⟩
              have HGX2 := Aside0.mk (blk_below HGX.out hb)
              clear HGX
              have HGX := HGX2
              clear HGX2
              have hcm : Aside0 (∀ k, ((.slice Avc r0.length cvc) : Value).ownBlock = some k → ((.slice Avm zs.length cvm) : Value).ownBlock ≠ some k) := ⟨fun k h1 h2 => by have := Kd.R_lt HVM.out k h2; have := Kd.R_base ho k h1; omega⟩
              have HVM2 := Aside0.mk (Kd.R_below HVM.out hb)
              clear HVM
              have HVM := HVM2
              clear HVM2
              have HVC : Aside0 (Kd.R (Kd.int .i64) 2 wc75 wr.heap.size (fun _ => True) (.slice Avc r0.length cvc) r0) := ⟨Kd.R_lower ho (below_size HBr.out)⟩
              have HB2 := Aside0.mk (below_step HBr.out hb)
              have BM2 := Aside0.mk (blk_below BMr.out hb)
              clear HBr BMr
              have HBr := HB2
              have BMr := BM2
              clear HB2 BM2
              refine hK.out _ _ ((blk_cell BMr.out 2).trans rfl) (fun hHeld => ?_)
              clear hK K
              refine norm_ (a' := ?_) ?_ ?_
              rotate_left
              · show Act.put _ (some 25) _ = _
                simp only [Act.put, List.setIfInBounds_toArray, List.set_cons_zero, List.set_cons_succ, i64_w, i32_w]
                rfl
              refine pure_ (i := 6) (N := some 30) (v := ?_) (a' := ?_) #[true, true, true, true, true, true, true, true, false] rfl rfl (by kernel_rfl) (fun _ _ _ h => h) (Or.inl ⟨by rfl, ?_⟩) ?_ ?_
              rotate_left
              · intro w'
                first | (go_simp; with_reducible rfl) | (simp [go_sem, Instr.field, asAgg] <;> with_reducible rfl)
              rotate_left
              · simp only [Act.put, List.setIfInBounds_toArray, List.set_cons_zero, List.set_cons_succ, i64_w, i32_w]
                rfl
              exact norm_ (by first | (simp only [putAll, Act.put, List.setIfInBounds_toArray, List.set_cons_zero, List.set_cons_succ]; done) | (simp only [putAll, Act.put, List.setIfInBounds_toArray, List.set_cons_zero, List.set_cons_succ]; rfl)) (hCont ((.slice Avc r0.length cvc), (.slice Avm zs.length cvm), gx) _ ⟨(blk_cell BMr.out 2).trans rfl, HVC.out, HVM.out, HGX.out, HGW.out, hcm.out, hcx.out, hmx.out, HBr.out⟩)
        rintro ⟨vc, vm, gx⟩ w6 ⟨hHeld0, hvc, hvm, hgx, hgw, hcm, hcx, hmx, hbr⟩
        obtain ⟨Avc, cvc, evc⟩ := Kd.R_slice hvc
        subst evc
        obtain ⟨Avm, cvm, evm⟩ := Kd.R_slice hvm
        subst evm
        have hHeld : w6.cell? ⟨w.heap.size, 2, none⟩ = some (.slice (some adr) l0_2.length c0_2) := hHeld0
        have HVC := Aside0.mk hvc
        have HVM := Aside0.mk hvm
        have HGX := Aside0.mk hgx
        have HGW := Aside0.mk hgw
        have HCM := Aside0.mk hcm
        have HCX := Aside0.mk hcx
        have HMX := Aside0.mk hmx
        have HBr := Aside0.mk hbr
        have hz0 : w6.cell? ⟨gx, 0, none⟩ = some (.slice none 0 0) := (blk_cell HGX.out 0).trans rfl
        have hz1 : w6.cell? ⟨gx, 1, none⟩ = some (.slice none 0 0) := (blk_cell HGX.out 1).trans rfl
        have hzf0 := blk_frozen HGX.out 0
        have hzf1 := blk_frozen HGX.out 1
        clear hHeld0 hvc hvm hgx hgw hcm hcx hmx hbr
        refine norm_ (a' := ?_) ?_ ?_
        rotate_left
        · simp only [putAll, Act.put, List.setIfInBounds_toArray, List.set_cons_zero, List.set_cons_succ]
          rfl
        refine last_ (i := 8) (N := none) #[true, true, true, true, true, true, true, true, true] rfl rfl (by kernel_rfl) (by decide) (fun K hK => ?_)
        refine skip_ (w1 := ?_) (by rfl) rfl ?_ ?_
        rotate_left
        · go_simp
          rfl
        refine hK.out _ _ ?_
        clear hK K
        refine done_ (by kernel_rfl) ?_
        clear hHeld hz0 hz1 hzf0 hzf1
        have X7 := Aside0.mk ((CombX.mk' HVC.out HVM.out HGX.out HBr.out HCM.out HCX.out HMX.out HGW.out).put (.slice Avc r0.length cvc) (.slice Avm zs.length cvm))
        clear HVC HVM HGX HBr HCM HCX HMX HGW
        generalize (w6.setCell ⟨gx, 0, none⟩ (.slice Avc r0.length cvc)).setCell ⟨gx, 1, none⟩ (.slice Avm zs.length cvm) = w7 at X7 ⊢
        obtain ⟨bm, cbm, em, _, _, _⟩ := Kd.R_form X7.out.hf (by have := CC.out; rw [HZS.out, List.length_replicate]; omega)
        injection em with em1 em2 em3
        subst em1
        clear em2 em3
        obtain ⟨Ap, cp, ep, lp, hPC⟩ := combParts HPt.out
        subst ep
        have HPC := Aside0.mk hPC
        clear lp hPC
        have hzl : i < (zs.length : Int) := by rw [HZS.out, List.length_replicate]; exact CC.out.2.1
        obtain ⟨hc7, hf7⟩ := Kd.R_celln 0 X7.out.hf i CC.out.1 hzl
        have hx0 : w7.cell? ⟨gx, 0, none⟩ = some (.slice Avc r0.length cvc) := (blk_cell X7.out.box 0).trans rfl
        have hx1 : w7.cell? ⟨gx, 1, none⟩ = some (.slice (some ⟨bm, 0, none⟩) zs.length cvm) := (blk_cell X7.out.box 1).trans rfl
        have hbg : bm ≠ gx := X7.out.nf bm rfl
        have hgb : gx ≠ bm := Ne.symm hbg
        have z1b : decide (i < (zs.length : Int)) = true := decide_eq_true hzl
        replace hzl := eq_true hzl
        have eg : ∀ (args : Array Value) (w : World), (callFunc 101 args).run Try.prog w = .ok (.enter 101 args) w := enters_of Try.func101 (by kernel_rfl) rfl
        have B2z : Aside0 (combLess k1 a0_0 parts r0 (zs.set i.toNat 1) 0 = some (x.1, x.2)) := ⟨by rw [HZS.out]; exact B2.out⟩
        by_cases cf : 0 ≤ f
        · have H := H1.out
          rw [if_pos cf] at H
          clear H1
          by_cases cg : f < (x.1.length : Int)
          case neg => rw [if_neg cg] at H; exact absurd H (by simp)
          rw [if_pos cg] at H
          replace H := Option.bind_eq_some_iff.mp H
          obtain ⟨by_, At, H⟩ := H
          have B4 := Aside0.mk At
          clear At
          replace H := Option.bind_eq_some_iff.mp H
          obtain ⟨rx2, At, H⟩ := H
          have B5 := Aside0.mk At
          clear At
          replace H := Option.bind_eq_some_iff.mp H
          obtain ⟨rf2, At, H⟩ := H
          have B6 := Aside0.mk At
          clear At
          by_cases ch : parts.length < 1048576
          case neg => rw [if_neg ch] at H; exact absurd H (by simp)
          rw [if_pos ch] at H
          have H' := Aside0.mk H
          clear H
          have CF := Aside0.mk (And.intro cf (And.intro cg ch))
          have cfb : decide (0 ≤ f) = true := decide_eq_true cf
          have cgb : decide (f < (x.1.length : Int)) = true := decide_eq_true cg
          replace cf := eq_true cf
          replace cg := eq_true cg
          clear ch
          go_wp2_with (first | (go_at_call 101; refine (combLess.calls k1 a0_0 (.int .i64 a0_1) (.slice (some adr) l0_2.length c0_2) w.heap.size gB Ap cp parts Avc (some ⟨bm, 0, none⟩) r0.length cvc zs.length cvm r0 (zs.set i.toNat 1) x.1 x.2 gx #[(.slice Avc r0.length cvc), (.slice (some ⟨bm, 0, none⟩) zs.length cvm)] 106 wr _ BM.out BB.out HPC.out ?sW ?sR ?sF ?sN ?sE ?sX ?sY B2z.out).mono ?_; (case sW => exact (X7.out.putf i 1).be); (case sR => exact Kd.R_mono (X7.out.putf i 1).hx (fun _ _ => trivial)); (case sF => exact Kd.R_mono (Kd.R_putn X7.out.hf i 1) (fun _ _ => trivial)); (case sN => exact X7.out.ne); (case sE => exact (X7.out.putf i 1).box); (case sX => exact X7.out.nx); (case sY => exact X7.out.nf); rintro e w9 ⟨rfl, hR, hF, hb, hbx⟩; have e1 := combLen hR; have e2 := combLen hF; have X9 : Aside0 (CombX wr w9 gx #[(.slice Avc x.1.length cvc), (.slice (some ⟨bm, 0, none⟩) x.2.length cvm)] Avc (some ⟨bm, 0, none⟩) cvc cvm x.1 x.2) := ⟨by have h := X7.out.less rfl rfl hR hF hb hbx; rw [e1, e2] at h; exact h⟩; rw [e1, e2]; clear hR hF hb hbx e1 e2 X7 B2 B2z hx0 hx1 hc7 hf7 hbg hgb z1b hzl; have hx0 : w9.cell? ⟨gx, 0, none⟩ = some (.slice Avc x.1.length cvc) := (blk_cell X9.out.box 0).trans rfl; have hx1 : w9.cell? ⟨gx, 1, none⟩ = some (.slice (some ⟨bm, 0, none⟩) x.2.length cvm) := (blk_cell X9.out.box 1).trans rfl; have hz0 := blk_frozen X9.out.box 0; have hz1 := blk_frozen X9.out.box 1) | (go_at_call 102; (with_reducible refine (impl_first.calls k1 Avc cvc x.1 f _ ?sC ?sL B3.out).mono ?_); (case sC => exact (X9.out.put (.slice Avc x.1.length cvc) (.slice (some ⟨bm, 0, none⟩) x.2.length cvm)).cx_); (case sL => exact X9.out.lx); rintro e w10 ⟨rfl, hb⟩; have X10 := Aside0.mk ((X9.out.put (.slice Avc x.1.length cvc) (.slice (some ⟨bm, 0, none⟩) x.2.length cvm)).below hb); clear hb X9 hx0 hx1 hz0 hz1))
          have X11 := Aside0.mk X10.out.drew
          clear X10
          obtain ⟨bx, cbx, ex, _, _, _⟩ := Kd.R_form X11.out.hx (by have := CF.out; omega)
          injection ex with ex1 ex2 ex3
          subst ex1
          clear ex2 ex3
          refine start_ (n := 9) (S := fun w' => w'.cell? ⟨w.heap.size, 0, none⟩ = some (.int .i64 a0_0) ∧ w'.cell? ⟨gx, 0, none⟩ = some (.slice (some ⟨bx, 0, none⟩) x.1.length cvc) ∧ w'.cell? ⟨bx, f.toNat, none⟩ = some (.int .i64 (rd x.1 f))) (ds := [7]) #[false, false, false, false, false, false, false, false, false] (by kernel_rfl) rfl rfl ⟨(blk_cell (blk_below BM.out X11.out.be) 0).trans rfl, (blk_cell X11.out.box 0).trans rfl, (Kd.R_celln 0 X11.out.hx f CF.out.1 CF.out.2.1).1⟩ (fun hHeld => ?_)
          generalize w10.drew = w11 at X11 hHeld ⊢
          refine pure_ (i := 0) (N := some 43) (v := ?_) (a' := ?_) #[true, false, false, false, false, false, false, false, false] rfl rfl (by kernel_rfl) (fun _ _ _ h => h) (Or.inl ⟨by rfl, ?_⟩) ?_ ?_
          rotate_left
          · intro w'
            first | (go_simp; with_reducible rfl) | (simp [go_sem, Instr.field, asAgg] <;> with_reducible rfl)
          rotate_left
          · simp only [Act.put, List.setIfInBounds_toArray, List.set_cons_zero, List.set_cons_succ, i64_w, i32_w]
            rfl
          refine pure_ (i := 2) (N := some 45) (v := ?_) (a' := ?_) #[true, false, true, false, false, false, false, false, false] rfl rfl (by kernel_rfl) (fun _ _ _ h => h) (Or.inl ⟨by rfl, ?_⟩) ?_ ?_
          rotate_left
          · intro w'
            first | (go_simp; with_reducible rfl) | (simp [go_sem, Instr.field, asAgg] <;> with_reducible rfl)
          rotate_left
          · simp only [Act.put, List.setIfInBounds_toArray, List.set_cons_zero, List.set_cons_succ, i64_w, i32_w]
            rfl
          refine pure_ (i := 4) (N := some 47) (v := ?_) (a' := ?_) #[true, false, true, false, true, false, false, false, false] rfl rfl (by kernel_rfl) (fun _ _ _ h => h) (Or.inl ⟨by rfl, ?_⟩) ?_ ?_
          rotate_left
          · intro w'
            first | (go_simp; with_reducible rfl) | (simp [go_sem, Instr.field, asAgg] <;> with_reducible rfl)
          rotate_left
          · simp only [Act.put, List.setIfInBounds_toArray, List.set_cons_zero, List.set_cons_succ, i64_w, i32_w]
            rfl
          refine take_ (i := 1) (N := some 44) (v := ?_) (a' := ?_) #[true, true, true, false, true, false, false, false, false] rfl rfl (by kernel_rfl) (fun _ _ _ h => h) (Or.inl ⟨by rfl, ?_⟩) hHeld ?_ ?_
          rotate_left
          · rintro w' ⟨s0, s1, s2⟩
            go_simp
            with_reducible rfl
          rotate_left
          · simp only [Act.put, List.setIfInBounds_toArray, List.set_cons_zero, List.set_cons_succ, i64_w, i32_w]
            rfl
          refine take_ (i := 3) (N := some 46) (v := ?_) (a' := ?_) #[true, true, true, true, true, false, false, false, false] rfl rfl (by kernel_rfl) (fun _ _ _ h => h) (Or.inl ⟨by rfl, ?_⟩) hHeld ?_ ?_
          rotate_left
          · rintro w' ⟨s0, s1, s2⟩
            go_simp
            with_reducible rfl
          rotate_left
          · simp only [Act.put, List.setIfInBounds_toArray, List.set_cons_zero, List.set_cons_succ, i64_w, i32_w]
            rfl
          refine pure_ (i := 5) (N := some 48) (v := ?_) (a' := ?_) #[true, true, true, true, true, true, false, false, false] rfl rfl (by kernel_rfl) (fun _ _ _ h => h) (Or.inl ⟨by rfl, ?_⟩) ?_ ?_
          rotate_left
          · intro w'
            first | (go_simp; with_reducible rfl) | (simp [go_sem, Instr.field, asAgg] <;> with_reducible rfl)
          rotate_left
          · simp only [Act.put, List.setIfInBounds_toArray, List.set_cons_zero, List.set_cons_succ, i64_w, i32_w]
            rfl
          refine take_ (i := 6) (N := some 49) (v := ?_) (a' := ?_) #[true, true, true, true, true, true, true, false, false] rfl rfl (by kernel_rfl) (fun _ _ _ h => h) (Or.inl ⟨by rfl, ?_⟩) hHeld ?_ ?_
          rotate_left
          · rintro w' ⟨s0, s1, s2⟩
            go_simp
            with_reducible rfl
          rotate_left
          · simp only [Act.put, List.setIfInBounds_toArray, List.set_cons_zero, List.set_cons_succ, i64_w, i32_w]
            rfl
          refine last_ (i := 7) (N := some 50) #[true, true, true, true, true, true, true, true, false] rfl rfl (by kernel_rfl) (by decide) (fun K hK => ?_)
          refine goes_ Try.func70 (by kernel_rfl) rfl #[.int .i64 a0_0, .int .i64 (rd x.1 f)] (by rfl) rfl rfl (by simp only [List.map_toArray, List.map_cons, List.map_nil]; rfl) ?_
          with_reducible refine (impl_inverse.calls k1 a0_0 (rd x.1 f) by_ _ B4.out).mono ?_
          rintro e w12 ⟨rfl, hd⟩
          refine ⟨_, rfl, ?_⟩
          have X12 := Aside0.mk (X11.out.below hd.below)
          clear X11 hd
          refine hK.out _ _ ?_
          clear hK K
          refine norm_ (a' := ?_) ?_ ?_
          rotate_left
          · show Act.put _ (some 50) _ = _
            simp only [Act.put, List.setIfInBounds_toArray, List.set_cons_zero, List.set_cons_succ, i64_w, i32_w]
            rfl
          refine pure_ (i := 8) (N := some 12) (v := ?_) (a' := ?_) #[true, true, true, true, true, true, true, true, true] rfl rfl (by kernel_rfl) (fun _ _ _ h => h) (Or.inl ⟨by rfl, ?_⟩) ?_ ?_
          rotate_left
          · intro w'
            first | (go_simp; with_reducible rfl) | (simp [go_sem, Instr.field, asAgg] <;> with_reducible rfl)
          rotate_left
          · simp only [Act.put, List.setIfInBounds_toArray, List.set_cons_zero, List.set_cons_succ, i64_w, i32_w]
            rfl
          refine done_ (by kernel_rfl) ?_
          clear hHeld
          have hm0 : w12.cell? ⟨w.heap.size, 0, none⟩ = some (.int .i64 a0_0) := (blk_cell (blk_below BM.out X12.out.be) 0).trans rfl
          have hb0 : w12.cell? ⟨gB, 0, none⟩ = some (.slice Ap parts.length cp) := (blk_cell (blk_below BB.out X12.out.be) 0).trans rfl
          have hx0 : w12.cell? ⟨gx, 0, none⟩ = some (.slice (some ⟨bx, 0, none⟩) x.1.length cvc) := (blk_cell X12.out.box 0).trans rfl
          have hx1 : w12.cell? ⟨gx, 1, none⟩ = some (.slice (some ⟨bm, 0, none⟩) x.2.length cvm) := (blk_cell X12.out.box 1).trans rfl
          go_wp2_with (first | (go_at_call 69; (with_reducible refine (impl_scaled.calls k1 a0_0 (fun k_ => some k_ = ((.slice (some ⟨bx, 0, none⟩) x.1.length cvc) : Value).ownBlock) (.slice (some ⟨bx, 0, none⟩) x.1.length cvc) x.1 by_ rx2 wr _ ?sB ?sR B5.out).mono ?_); (case sB => exact X12.out.be); (case sR => exact X12.out.hx); rintro e w13 ⟨rfl, hR, hb, hK⟩; have e1 := combLen hR; have X13 : Aside0 (CombX wr w13 gx #[(.slice (some ⟨bx, 0, none⟩) rx2.length cvc), (.slice (some ⟨bm, 0, none⟩) x.2.length cvm)] (some ⟨bx, 0, none⟩) (some ⟨bm, 0, none⟩) cvc cvm rx2 x.2) := ⟨by have h := X12.out.scx hR hb hK; rw [e1] at h; exact h⟩; rw [e1]; clear hR hb hK e1 X12 B5 hm0 hb0 hx0 hx1; have hm0 : w13.cell? ⟨w.heap.size, 0, none⟩ = some (.int .i64 a0_0) := (blk_cell (blk_below BM.out X13.out.be) 0).trans rfl; have hb0 : w13.cell? ⟨gB, 0, none⟩ = some (.slice Ap parts.length cp) := (blk_cell (blk_below BB.out X13.out.be) 0).trans rfl; have hx0 : w13.cell? ⟨gx, 0, none⟩ = some (.slice (some ⟨bx, 0, none⟩) rx2.length cvc) := (blk_cell X13.out.box 0).trans rfl; have hx1 : w13.cell? ⟨gx, 1, none⟩ = some (.slice (some ⟨bm, 0, none⟩) x.2.length cvm) := (blk_cell X13.out.box 1).trans rfl) | (go_at_call 69; (with_reducible refine (impl_scaled.calls k1 a0_0 (fun k_ => some k_ = ((.slice (some ⟨bm, 0, none⟩) x.2.length cvm) : Value).ownBlock) (.slice (some ⟨bm, 0, none⟩) x.2.length cvm) x.2 by_ rf2 wr _ ?sB ?sR B6.out).mono ?_); (case sB => exact X13.out.be); (case sR => exact X13.out.hf); rintro e w14 ⟨rfl, hR, hb, hK⟩; have e1 := combLen hR; have X14 : Aside0 (CombX wr w14 gx #[(.slice (some ⟨bx, 0, none⟩) rx2.length cvc), (.slice (some ⟨bm, 0, none⟩) rf2.length cvm)] (some ⟨bx, 0, none⟩) (some ⟨bm, 0, none⟩) cvc cvm rx2 rf2) := ⟨by have h := X13.out.scf hR hb hK; rw [e1] at h; exact h⟩; rw [e1]; clear hR hb hK e1 X13 B6 hm0 hb0 hx0 hx1; have hm0 : w14.cell? ⟨w.heap.size, 0, none⟩ = some (.int .i64 a0_0) := (blk_cell (blk_below BM.out X14.out.be) 0).trans rfl; have hb0 : w14.cell? ⟨gB, 0, none⟩ = some (.slice Ap parts.length cp) := (blk_cell (blk_below BB.out X14.out.be) 0).trans rfl; have hx0 : w14.cell? ⟨gx, 0, none⟩ = some (.slice (some ⟨bx, 0, none⟩) rx2.length cvc) := (blk_cell X14.out.box 0).trans rfl; have hx1 : w14.cell? ⟨gx, 1, none⟩ = some (.slice (some ⟨bm, 0, none⟩) rf2.length cvm) := (blk_cell X14.out.box 1).trans rfl) | ((with_reducible refine gate_builtin (b := .append) (xs := #[.tmp 63, .tmp 65]) rfl ?_); at_builtin; refine Kd.R_append (Kd.pair (Kd.slice 2 (Kd.int .i64)) (Kd.slice 2 (Kd.int .i64))) (w0 := w) w.heap.size rfl (.tmp 63) (.tmp 65) 104 106 (.agg #[.slice none 0 0, .slice none 0 0]) 48 rfl Try.underlying104 combInfo rfl (by decide) (by omega) (.slice Ap parts.length cp) parts (rx2, rf2) [(.slice (some ⟨bx, 0, none⟩) rx2.length cvc), (.slice (some ⟨bm, 0, none⟩) rf2.length cvm)] (fun k_ => w.heap.size + 1 ≤ k_ ∧ k_ ≠ gB) (fun k_ => wr.heap.size ≤ k_) rfl rfl ?aP ?aK ?aF ?aO ?aB ?aS ?aL ?_; (case aP => exact ⟨[(.slice (some ⟨bx, 0, none⟩) rx2.length cvc)], [(.slice (some ⟨bm, 0, none⟩) rf2.length cvm)], rfl, ⟨_, rfl, Kd.R_mono (Kd.R_lower X14.out.hx (below_size HB.out)) (fun k_ hk_ => Kd.R_base X14.out.hx k_ hk_.symm)⟩, ⟨_, rfl, Kd.R_mono (Kd.R_lower X14.out.hf (below_size HB.out)) (fun k_ hk_ => Kd.R_base X14.out.hf k_ hk_.symm)⟩⟩); (case aK => exact fun k_ hk_ => ⟨⟨by have := blk_lt BM.out; omega, by have := blk_lt BB.out; omega⟩, fun e_ => by have := Kd.R_lt HPt.out k_ e_.symm; omega⟩); (case aF => exact fun k_ hk_ => ⟨by have := blk_lt BM.out; have := below_size X14.out.be; omega, by have := blk_lt BB.out; have := below_size X14.out.be; omega⟩); (case aO => exact Kd.R_below HPt.out X14.out.be); (case aB => exact below_step HB.out X14.out.be); (case aS => exact below_size (below_step HB.out X14.out.be)); (case aL => have := CF.out.2.2; omega); intro v15 w15 ho hb hg hat; obtain ⟨A15, c15, e15⟩ := Kd.R_slice ho; subst e15; have BM15 := Aside0.mk (blk_grown (g := w.heap.size) (o := .cells #[.int .i64 a0_0, .int .i64 a0_1, .slice (some adr) l0_2.length c0_2] 26 (0, 0)) (blk_below BM.out X14.out.be) hg (Kd.R_ne (Kd.R_below HPt.out X14.out.be) (blk_below BM.out X14.out.be) (by decide))); have BB15 := Aside0.mk (blk_grown (g := gB) (o := .cells #[.slice Ap parts.length cp] 104 (0, 0)) (blk_below BB.out X14.out.be) hg (Kd.R_ne (Kd.R_below HPt.out X14.out.be) (blk_below BB.out X14.out.be) (by decide))); have HO15 : Aside0 (Kd.R (Kd.pair (Kd.slice 2 (Kd.int .i64)) (Kd.slice 2 (Kd.int .i64))) 106 w15 w.heap.size (fun k_ => w.heap.size + 1 ≤ k_ ∧ k_ ≠ gB) (.slice A15 (parts.length + 1) c15) (parts ++ [(rx2, rf2)])) := ⟨by rw [List.length_append] at ho; exact ho⟩; have HB15 := Aside0.mk hb; clear ho hb hg hat X14 hm0 hb0 hx0 hx1; have hb0 : w15.cell? ⟨gB, 0, none⟩ = some (.slice Ap parts.length cp) := (blk_cell BB15.out 0).trans rfl; have hbf := blk_frozen BB15.out 0))
          go_roundg k1
          case measure => have := HK1.out; omega
          case rel => exact ⟨_, parts ++ [(rx2, rf2)], _, rfl, H', ⟨by have := HK1.out; omega⟩, ⟨Kd.R_far (p := ⟨gB, 0, none⟩) HO15.out (fun k_ hk_ => hk_.2) _⟩, ⟨blk_far BM15.out (by show w.heap.size ≠ gB; have := HGB.out; omega) _⟩, ⟨blk_put BB15.out 0 _ rfl⟩, ⟨below_set HB15.out (by have := HGB.out; omega)⟩⟩
        · have H' : Aside0 (combRows k1 a0_0 l0_2 parts (wrap64 (i + 1)) = some ps) := ⟨by have h := H1.out; rw [if_neg cf] at h; exact h⟩
          clear H1
          have cfb : decide (0 ≤ f) = false := decide_eq_false cf
          replace cf := Aside0.mk cf
          go_wp2_with (first | (go_at_call 101; refine (combLess.calls k1 a0_0 (.int .i64 a0_1) (.slice (some adr) l0_2.length c0_2) w.heap.size gB Ap cp parts Avc (some ⟨bm, 0, none⟩) r0.length cvc zs.length cvm r0 (zs.set i.toNat 1) x.1 x.2 gx #[(.slice Avc r0.length cvc), (.slice (some ⟨bm, 0, none⟩) zs.length cvm)] 106 wr _ BM.out BB.out HPC.out ?sW ?sR ?sF ?sN ?sE ?sX ?sY B2z.out).mono ?_; (case sW => exact (X7.out.putf i 1).be); (case sR => exact Kd.R_mono (X7.out.putf i 1).hx (fun _ _ => trivial)); (case sF => exact Kd.R_mono (Kd.R_putn X7.out.hf i 1) (fun _ _ => trivial)); (case sN => exact X7.out.ne); (case sE => exact (X7.out.putf i 1).box); (case sX => exact X7.out.nx); (case sY => exact X7.out.nf); rintro e w9 ⟨rfl, hR, hF, hb, hbx⟩; have e1 := combLen hR; have e2 := combLen hF; have X9 : Aside0 (CombX wr w9 gx #[(.slice Avc x.1.length cvc), (.slice (some ⟨bm, 0, none⟩) x.2.length cvm)] Avc (some ⟨bm, 0, none⟩) cvc cvm x.1 x.2) := ⟨by have h := X7.out.less rfl rfl hR hF hb hbx; rw [e1, e2] at h; exact h⟩; rw [e1, e2]; clear hR hF hb hbx e1 e2 X7 B2 B2z hx0 hx1 hc7 hf7 hbg hgb z1b hzl; have hx0 : w9.cell? ⟨gx, 0, none⟩ = some (.slice Avc x.1.length cvc) := (blk_cell X9.out.box 0).trans rfl; have hx1 : w9.cell? ⟨gx, 1, none⟩ = some (.slice (some ⟨bm, 0, none⟩) x.2.length cvm) := (blk_cell X9.out.box 1).trans rfl; have hz0 := blk_frozen X9.out.box 0; have hz1 := blk_frozen X9.out.box 1) | (go_at_call 102; (with_reducible refine (impl_first.calls k1 Avc cvc x.1 f _ ?sC ?sL B3.out).mono ?_); (case sC => exact (X9.out.put (.slice Avc x.1.length cvc) (.slice (some ⟨bm, 0, none⟩) x.2.length cvm)).cx_); (case sL => exact X9.out.lx); rintro e w10 ⟨rfl, hb⟩; have X10 := Aside0.mk ((X9.out.put (.slice Avc x.1.length cvc) (.slice (some ⟨bm, 0, none⟩) x.2.length cvm)).below hb); clear hb X9 hx0 hx1 hz0 hz1))
          go_roundg k1
          case measure => have := HK1.out; omega
          case rel => exact ⟨_, parts, _, rfl, H', ⟨by have := HK1.out; omega⟩, ⟨Kd.R_below HPt.out X10.out.be⟩, ⟨blk_below BM.out X10.out.be⟩, ⟨blk_below BB.out X10.out.be⟩, ⟨below_step HB.out X10.out.be⟩⟩
      · rw [if_neg c2] at H
        obtain rfl := (by simpa using H : parts = ps)
        clear H
        have c2b : decide (i < (l0_2.length : Int)) = false := decide_eq_false c2
        replace c2 := Aside0.mk c2
        have H := HE.out
        clear HE
        replace H := Option.bind_eq_some_iff.mp H
        obtain ⟨t0, At, H⟩ := H
        have B1 := Aside0.mk At
        clear At
        replace H := Option.bind_eq_some_iff.mp H
        obtain ⟨x, At, H⟩ := H
        have B2 := Aside0.mk At
        clear At
        replace H := Option.bind_eq_some_iff.mp H
        obtain ⟨f, At, H⟩ := H
        have B3 := Aside0.mk At
        clear At
        have H1 := Aside0.mk H
        clear H
        obtain ⟨zs, hzs⟩ : ∃ z : List Int, z = List.replicate l0_2.length 0 := ⟨_, rfl⟩
        have HZS := Aside0.mk hzs
        clear hzs
        obtain ⟨Ap, cp, ep, lp, hPC⟩ := combParts HPt.out
        subst ep
        have HPC := Aside0.mk hPC
        clear lp hPC HPt
        have hm2 : wr.cell? ⟨w.heap.size, 2, none⟩ = some (.slice A0_2 l0_2.length c0_2) := (blk_cell BM.out 2).trans rfl
        have B2z : Aside0 (combLess k a0_0 parts t0 zs 0 = some (x.1, x.2)) := ⟨by rw [HZS.out]; exact B2.out⟩
        clear B2
        go_wp2
        clear hm2
        have HBr : Aside0 (Below wr.heap.size wr wr.drew) := ⟨below_drew1 (Below.refl _ _)⟩
        refine start_ (n := 11) (S := fun w' => w'.cell? ⟨w.heap.size, 2, none⟩ = some (.slice A0_2 l0_2.length c0_2)) (ds := [10]) #[false, false, false, false, false, false, false, false, false, false, false] (by kernel_rfl) rfl rfl ((blk_cell (blk_below BM.out HBr.out) 2).trans rfl) (fun hHeld => ?_)
        generalize wr.drew = w15 at HBr hHeld ⊢
        refine pure_ (i := 0) (N := some 68) (v := ?_) (a' := ?_) #[true, false, false, false, false, false, false, false, false, false, false] rfl rfl (by kernel_rfl) (fun _ _ _ h => h) (Or.inl ⟨by rfl, ?_⟩) ?_ ?_
        rotate_left
        · intro w'
          first | (go_simp; with_reducible rfl) | (simp [go_sem, Instr.field, asAgg] <;> with_reducible rfl)
        rotate_left
        · simp only [Act.put, List.setIfInBounds_toArray, List.set_cons_zero, List.set_cons_succ, i64_w, i32_w]
          rfl
        refine pure_ (i := 1) (N := some 69) (v := ?_) (a' := ?_) #[true, true, false, false, false, false, false, false, false, false, false] rfl rfl (by kernel_rfl) (fun _ _ _ h => h) (Or.inl ⟨by rfl, ?_⟩) ?_ ?_
        rotate_left
        · intro w'
          first | (go_simp; with_reducible rfl) | (simp [go_sem, Instr.field, asAgg] <;> with_reducible rfl)
        rotate_left
        · simp only [Act.put, List.setIfInBounds_toArray, List.set_cons_zero, List.set_cons_succ, i64_w, i32_w]
          rfl
        refine pure_ (i := 3) (N := some 71) (v := ?_) (a' := ?_) #[true, true, false, true, false, false, false, false, false, false, false] rfl rfl (by kernel_rfl) (fun _ _ _ h => h) (Or.inl ⟨by rfl, ?_⟩) ?_ ?_
        rotate_left
        · intro w'
          first | (go_simp; with_reducible rfl) | (simp [go_sem, Instr.field, asAgg] <;> with_reducible rfl)
        rotate_left
        · simp only [Act.put, List.setIfInBounds_toArray, List.set_cons_zero, List.set_cons_succ, i64_w, i32_w]
          rfl
        refine take_ (i := 4) (N := some 72) (v := ?_) (a' := ?_) #[true, true, false, true, true, false, false, false, false, false, false] rfl rfl (by kernel_rfl) (fun _ _ _ h => h) (Or.inl ⟨by rfl, ?_⟩) hHeld ?_ ?_
        rotate_left
        · intro w' s0
          go_simp
          with_reducible rfl
        rotate_left
        · simp only [Act.put, List.setIfInBounds_toArray, List.set_cons_zero, List.set_cons_succ, i64_w, i32_w]
          rfl
        refine pure_ (i := 5) (N := some 73) (v := ?_) (a' := ?_) #[true, true, false, true, true, true, false, false, false, false, false] rfl rfl (by kernel_rfl) (fun _ _ _ h => h) (Or.inl ⟨by rfl, ?_⟩) ?_ ?_
        rotate_left
        · intro w'
          first | (go_simp; with_reducible rfl) | (simp [go_sem, Instr.field, asAgg] <;> with_reducible rfl)
        rotate_left
        · simp only [Act.put, List.setIfInBounds_toArray, List.set_cons_zero, List.set_cons_succ, i64_w, i32_w]
          rfl
        refine join_ (σ := Value × Value × Nat) 1 #[true, true, true, true, true, true, true, true, true, true, false] (fun s_ => [(70, s_.1), (74, s_.2.1), (75, .agg #[s_.1, s_.2.1]), (76, .agg #[s_.1, s_.2.1]), (13, .pointer (some ⟨s_.2.2, 0, none⟩))]) (fun s_ w' => (w'.cell? ⟨w.heap.size, 2, none⟩ = some (.slice A0_2 l0_2.length c0_2)) ∧ (Kd.R (Kd.int .i64) 2 w' wr.heap.size (fun _ => True) s_.1 x.1) ∧ (Kd.R (Kd.int .i64) 2 w' wr.heap.size (fun _ => True) s_.2.1 x.2) ∧ (w'.heap[s_.2.2]? = some (.cells #[.slice none 0 0, .slice none 0 0] 106 (0, 0))) ∧ (wr.heap.size ≤ s_.2.2) ∧ (∀ k, (s_.1 : Value).ownBlock = some k → (s_.2.1 : Value).ownBlock ≠ some k) ∧ (∀ k, (s_.1 : Value).ownBlock = some k → k ≠ s_.2.2) ∧ (∀ k, (s_.2.1 : Value).ownBlock = some k → k ≠ s_.2.2) ∧ (Below wr.heap.size wr w')) ?_ ?_
        rotate_left
        · intro hCont
          refine three_ (i := 2) (j := 6) (k := 9) (Ni := some 70) (Nj := some 74) (Nk := some 13) #[true, true, true, true, true, true, false, false, false, false, false] #[true, true, false, true, true, true, true, false, false, false, false] #[true, true, false, true, true, true, false, false, false, true, false] rfl rfl rfl rfl rfl rfl (by kernel_rfl) (by decide) (by decide) (by decide) (fun K hK => ?_) (fun K hK => ?_) (fun K hK => ?_)
          · skip
            refine goes_ Try.func64 (by kernel_rfl) rfl #[.slice A1 l1.length c1] (by rfl) rfl rfl (by simp only [List.map_toArray, List.map_cons, List.map_nil]; rfl) ?_
            with_reducible refine (slices_Clone_int64_int64.calls A1 c1 l1 t0 _ (Kd.C_below HR1.out (below_step HB.out HBr.out)) HC1.out B1.out).mono ?_
            rintro e wc ⟨vc, rfl, ho, hb⟩
            refine ⟨_, rfl, ?_⟩
            obtain ⟨Avc, cvc, evc⟩ := Kd.R_slice ho
            subst evc
            have HVC : Aside0 (Kd.R (Kd.int .i64) 2 wc wr.heap.size (fun _ => True) (.slice Avc t0.length cvc) t0) := ⟨Kd.R_lower ho (below_size HBr.out)⟩
            have HB2 := Aside0.mk (below_step HBr.out hb)
            clear HBr
            have HBr := HB2
            clear HB2
            refine hK.out _ _ ((blk_cell (blk_below BM.out HBr.out) 2).trans rfl) (fun hHeld => ?_)
            clear hK K
            refine norm_ (a' := ?_) ?_ ?_
            rotate_left
            · show Act.put _ (some 70) _ = _
              simp only [Act.put, List.setIfInBounds_toArray, List.set_cons_zero, List.set_cons_succ, i64_w, i32_w]
              rfl
            refine two_ (i := 6) (j := 9) (Ni := some 74) (Nj := some 13) #[true, true, true, true, true, true, true, false, false, false, false] #[true, true, true, true, true, true, false, false, false, true, false] rfl rfl rfl rfl (by kernel_rfl) (by decide) (by decide) (fun K hK => ?_) (fun K hK => ?_)
            · skip
              refine Kd.R_make_step (Kd.int .i64) _ 2 (by rfl) (N := 74) rfl 35 _ _ rfl (l0_2.length : Int) rfl rfl Try.underlying35 (.int .i64 0) 8 info2 rfl (by decide) (by omega) 0 (ok := fun _ => True) (okp := fun _ => True) rfl (fun _ hk => hk) trivial (by omega) (by have := HL20.out; simp only [Int.toNat_natCast]; omega) (Below.refl _ _) (Nat.le_refl _) ?_
              intro vm wm2 ho hb hg_ hnew_
              clear hg_ hnew_
              rw [Int.toNat_natCast, ← HZS.out] at ho
              obtain ⟨Avm, cvm, evm⟩ := Kd.R_slice ho
              subst evm
              have hcm : Aside0 (∀ k, ((.slice Avc t0.length cvc) : Value).ownBlock = some k → ((.slice Avm zs.length cvm) : Value).ownBlock ≠ some k) := ⟨fun k h1 h2 => by have := Kd.R_lt HVC.out k h1; have := Kd.R_base ho k h2; omega⟩
              have HVC2 := Aside0.mk (Kd.R_below HVC.out hb)
              clear HVC
              have HVC := HVC2
              clear HVC2
              have HVM : Aside0 (Kd.R (Kd.int .i64) 2 wm2 wr.heap.size (fun _ => True) (.slice Avm zs.length cvm) zs) := ⟨Kd.R_lower ho (below_size HBr.out)⟩
              have HB2 := Aside0.mk (below_step HBr.out hb)
              clear HBr
              have HBr := HB2
              clear HB2
              refine hK.out _ _ ((blk_cell (blk_below BM.out HBr.out) 2).trans rfl) (fun hHeld => ?_)
              clear hK K
              refine norm_ (a' := ?_) ?_ ?_
              rotate_left
              · show Act.put _ (some 74) _ = _
                simp only [Act.put, List.setIfInBounds_toArray, List.set_cons_zero, List.set_cons_succ, i64_w, i32_w]
                rfl
              refine pure_ (i := 7) (N := some 75) (v := ?_) (a' := ?_) #[true, true, true, true, true, true, true, true, false, false, false] rfl rfl (by kernel_rfl) (fun _ _ _ h => h) (Or.inl ⟨by rfl, ?_⟩) ?_ ?_
              rotate_left
              · intro w'
                first | (go_simp; with_reducible rfl) | (simp [go_sem, Instr.field, asAgg] <;> with_reducible rfl)
              rotate_left
              · simp only [Act.put, List.setIfInBounds_toArray, List.set_cons_zero, List.set_cons_succ, i64_w, i32_w]
                rfl
              refine two_ (i := 8) (j := 9) (Ni := some 76) (Nj := some 13) #[true, true, true, true, true, true, true, true, true, false, false] #[true, true, true, true, true, true, true, true, false, true, false] rfl rfl rfl rfl (by kernel_rfl) (by decide) (by decide) (fun K hK => ?_) (fun K hK => ?_)
              · skip
                refine combGoes Try.func101 (by kernel_rfl) rfl #[.agg #[(.slice Avc t0.length cvc), (.slice Avm zs.length cvm)]] (by rfl) rfl rfl rfl (by simp only [List.map_toArray, List.map_cons, List.map_nil]; rfl) ?_
                refine (combLess.calls k a0_0 (.int .i64 a0_1) (.slice A0_2 l0_2.length c0_2) w.heap.size gB Ap cp parts Avc Avm t0.length cvc zs.length cvm t0 zs x.1 x.2 w.heap.size #[.int .i64 a0_0, .int .i64 a0_1, .slice A0_2 l0_2.length c0_2] 26 wr _ BM.out BB.out HPC.out HBr.out HVC.out HVM.out hcm.out (blk_below BM.out HBr.out) (fun k h1 h2 => by have := Kd.R_base HVC.out k h1; have := blk_lt BM.out; omega) (fun k h1 h2 => by have := Kd.R_base HVM.out k h1; have := blk_lt BM.out; omega) B2z.out).mono ?_
                rintro e wl26 ⟨rfl, hR, hF, hb, hbx⟩
                refine ⟨_, rfl, ?_⟩
                clear HVC HVM HBr
                have HVC := Aside0.mk hR
                have HVM := Aside0.mk hF
                have HBr := Aside0.mk hb
                clear hR hF hb hbx
                refine hK.out _ _ ((blk_cell (blk_below BM.out HBr.out) 2).trans rfl) (fun hHeld => ?_)
                clear hK K
                refine norm_ (a' := ?_) ?_ ?_
                rotate_left
                · show Act.put _ (some 76) _ = _
                  simp only [Act.put, List.setIfInBounds_toArray, List.set_cons_zero, List.set_cons_succ, i64_w, i32_w]
                  rfl
                refine one_ (i := 9) (N := some 13) #[true, true, true, true, true, true, true, true, true, true, false] rfl rfl (by kernel_rfl) (by decide) (fun K hK => ?_)
                refine box_step (by rfl) (N := 13) rfl (cs := #[.slice none 0 0, .slice none 0 0]) (t := 106) ?_ ?_
                · first | (go_simp; done) | (go_simp; rfl)
                intro gx hgx wx268 hbox hb
                have hcx : Aside0 (∀ k, ((.slice Avc t0.length cvc) : Value).ownBlock = some k → k ≠ gx) := ⟨fun k h1 h2 => by have := Kd.R_lt HVC.out k h1; omega⟩
                have HVC2 := Aside0.mk (Kd.R_below HVC.out hb)
                clear HVC
                have HVC := HVC2
                clear HVC2
                have hmx : Aside0 (∀ k, ((.slice Avm zs.length cvm) : Value).ownBlock = some k → k ≠ gx) := ⟨fun k h1 h2 => by have := Kd.R_lt HVM.out k h1; omega⟩
                have HVM2 := Aside0.mk (Kd.R_below HVM.out hb)
                clear HVM
                have HVM := HVM2
                clear HVM2
                have HGX := Aside0.mk hbox
                have HGW : Aside0 (wr.heap.size ≤ gx) := ⟨by rw [hgx]; exact (below_size HBr.out)⟩
                have HB2 := Aside0.mk (below_step HBr.out hb)
                clear HBr
                have HBr := HB2
                clear HB2
                refine hK.out _ _ ((blk_cell (blk_below BM.out HBr.out) 2).trans rfl) (fun hHeld => ?_)
                clear hK K
                refine norm_ (a' := ?_) ?_ ?_
                rotate_left
                · show Act.put _ (some 13) _ = _
                  simp only [Act.put, List.setIfInBounds_toArray, List.set_cons_zero, List.set_cons_succ, i64_w, i32_w]
                  rfl
                exact norm_ (by first | (simp only [putAll, Act.put, List.setIfInBounds_toArray, List.set_cons_zero, List.set_cons_succ]; done) | (simp only [putAll, Act.put, List.setIfInBounds_toArray, List.set_cons_zero, List.set_cons_succ]; rfl)) (hCont ((.slice Avc t0.length cvc), (.slice Avm zs.length cvm), gx) _ ⟨(blk_cell (blk_below BM.out HBr.out) 2).trans rfl, HVC.out, HVM.out, HGX.out, HGW.out, hcm.out, hcx.out, hmx.out, HBr.out⟩)
              · skip
                refine box_step (by rfl) (N := 13) rfl (cs := #[.slice none 0 0, .slice none 0 0]) (t := 106) ?_ ?_
                · first | (go_simp; done) | (go_simp; rfl)
                intro gx hgx wx26 hbox hb
                have hcx : Aside0 (∀ k, ((.slice Avc t0.length cvc) : Value).ownBlock = some k → k ≠ gx) := ⟨fun k h1 h2 => by have := Kd.R_lt HVC.out k h1; omega⟩
                have HVC2 := Aside0.mk (Kd.R_below HVC.out hb)
                clear HVC
                have HVC := HVC2
                clear HVC2
                have hmx : Aside0 (∀ k, ((.slice Avm zs.length cvm) : Value).ownBlock = some k → k ≠ gx) := ⟨fun k h1 h2 => by have := Kd.R_lt HVM.out k h1; omega⟩
                have HVM2 := Aside0.mk (Kd.R_below HVM.out hb)
                clear HVM
                have HVM := HVM2
                clear HVM2
                have HGX := Aside0.mk hbox
                have HGW : Aside0 (wr.heap.size ≤ gx) := ⟨by rw [hgx]; exact (below_size HBr.out)⟩
                have HB2 := Aside0.mk (below_step HBr.out hb)
                clear HBr
                have HBr := HB2
                clear HB2
                refine hK.out _ _ ((blk_cell (blk_below BM.out HBr.out) 2).trans rfl) (fun hHeld => ?_)
                clear hK K
                refine norm_ (a' := ?_) ?_ ?_
                rotate_left
                · show Act.put _ (some 13) _ = _
                  simp only [Act.put, List.setIfInBounds_toArray, List.set_cons_zero, List.set_cons_succ, i64_w, i32_w]
                  rfl
                refine one_ (i := 8) (N := some 76) #[true, true, true, true, true, true, true, true, true, true, false] rfl rfl (by kernel_rfl) (by decide) (fun K hK => ?_)
                refine combGoes Try.func101 (by kernel_rfl) rfl #[.agg #[(.slice Avc t0.length cvc), (.slice Avm zs.length cvm)]] (by rfl) rfl rfl rfl (by simp only [List.map_toArray, List.map_cons, List.map_nil]; rfl) ?_
                refine (combLess.calls k a0_0 (.int .i64 a0_1) (.slice A0_2 l0_2.length c0_2) w.heap.size gB Ap cp parts Avc Avm t0.length cvc zs.length cvm t0 zs x.1 x.2 gx #[.slice none 0 0, .slice none 0 0] 106 wr _ BM.out BB.out HPC.out HBr.out HVC.out HVM.out hcm.out HGX.out hcx.out hmx.out B2z.out).mono ?_
                rintro e wl269 ⟨rfl, hR, hF, hb, hbx⟩
                refine ⟨_, rfl, ?_⟩
                clear HVC HVM HBr HGX
                have HVC := Aside0.mk hR
                have HVM := Aside0.mk hF
                have HBr := Aside0.mk hb
                have HGX := Aside0.mk hbx
                clear hR hF hb hbx
                refine hK.out _ _ ((blk_cell (blk_below BM.out HBr.out) 2).trans rfl) (fun hHeld => ?_)
                clear hK K
                refine norm_ (a' := ?_) ?_ ?_
                rotate_left
                · show Act.put _ (some 76) _ = _
                  simp only [Act.put, List.setIfInBounds_toArray, List.set_cons_zero, List.set_cons_succ, i64_w, i32_w]
                  rfl
                exact norm_ (by first | (simp only [putAll, Act.put, List.setIfInBounds_toArray, List.set_cons_zero, List.set_cons_succ]; done) | (simp only [putAll, Act.put, List.setIfInBounds_toArray, List.set_cons_zero, List.set_cons_succ]; rfl)) (hCont ((.slice Avc t0.length cvc), (.slice Avm zs.length cvm), gx) _ ⟨(blk_cell (blk_below BM.out HBr.out) 2).trans rfl, HVC.out, HVM.out, HGX.out, HGW.out, hcm.out, hcx.out, hmx.out, HBr.out⟩)
            · skip
              refine box_step (by rfl) (N := 13) rfl (cs := #[.slice none 0 0, .slice none 0 0]) (t := 106) ?_ ?_
              · first | (go_simp; done) | (go_simp; rfl)
              intro gx hgx wx2 hbox hb
              have hcx : Aside0 (∀ k, ((.slice Avc t0.length cvc) : Value).ownBlock = some k → k ≠ gx) := ⟨fun k h1 h2 => by have := Kd.R_lt HVC.out k h1; omega⟩
              have HVC2 := Aside0.mk (Kd.R_below HVC.out hb)
              clear HVC
              have HVC := HVC2
              clear HVC2
              have HGX := Aside0.mk hbox
              have HGW : Aside0 (wr.heap.size ≤ gx) := ⟨by rw [hgx]; exact (below_size HBr.out)⟩
              have HB2 := Aside0.mk (below_step HBr.out hb)
              clear HBr
              have HBr := HB2
              clear HB2
              refine hK.out _ _ ((blk_cell (blk_below BM.out HBr.out) 2).trans rfl) (fun hHeld => ?_)
              clear hK K
              refine norm_ (a' := ?_) ?_ ?_
              rotate_left
              · show Act.put _ (some 13) _ = _
                simp only [Act.put, List.setIfInBounds_toArray, List.set_cons_zero, List.set_cons_succ, i64_w, i32_w]
                rfl
              refine one_ (i := 6) (N := some 74) #[true, true, true, true, true, true, true, false, false, true, false] rfl rfl (by kernel_rfl) (by decide) (fun K hK => ?_)
              refine Kd.R_make_step (Kd.int .i64) _ 2 (by rfl) (N := 74) rfl 35 _ _ rfl (l0_2.length : Int) rfl rfl Try.underlying35 (.int .i64 0) 8 info2 rfl (by decide) (by omega) 0 (ok := fun _ => True) (okp := fun _ => True) rfl (fun _ hk => hk) trivial (by omega) (by have := HL20.out; simp only [Int.toNat_natCast]; omega) (Below.refl _ _) (Nat.le_refl _) ?_
              intro vm wm29 ho hb hg_ hnew_
              clear hg_ hnew_
              rw [Int.toNat_natCast, ← HZS.out] at ho
              obtain ⟨Avm, cvm, evm⟩ := Kd.R_slice ho
              subst evm
              have hcm : Aside0 (∀ k, ((.slice Avc t0.length cvc) : Value).ownBlock = some k → ((.slice Avm zs.length cvm) : Value).ownBlock ≠ some k) := ⟨fun k h1 h2 => by have := Kd.R_lt HVC.out k h1; have := Kd.R_base ho k h2; omega⟩
              have HVC2 := Aside0.mk (Kd.R_below HVC.out hb)
              clear HVC
              have HVC := HVC2
              clear HVC2
              have hmx : Aside0 (∀ k, ((.slice Avm zs.length cvm) : Value).ownBlock = some k → k ≠ gx) := ⟨fun k h1 h2 => by have := blk_lt HGX.out; have := Kd.R_base ho k h1; omega⟩
              have HGX2 := Aside0.mk (blk_below HGX.out hb)
              clear HGX
              have HGX := HGX2
              clear HGX2
              have HVM : Aside0 (Kd.R (Kd.int .i64) 2 wm29 wr.heap.size (fun _ => True) (.slice Avm zs.length cvm) zs) := ⟨Kd.R_lower ho (below_size HBr.out)⟩
              have HB2 := Aside0.mk (below_step HBr.out hb)
              clear HBr
              have HBr := HB2
              clear HB2
              refine hK.out _ _ ((blk_cell (blk_below BM.out HBr.out) 2).trans rfl) (fun hHeld => ?_)
              clear hK K
              refine norm_ (a' := ?_) ?_ ?_
              rotate_left
              · show Act.put _ (some 74) _ = _
                simp only [Act.put, List.setIfInBounds_toArray, List.set_cons_zero, List.set_cons_succ, i64_w, i32_w]
                rfl
              refine pure_ (i := 7) (N := some 75) (v := ?_) (a' := ?_) #[true, true, true, true, true, true, true, true, false, true, false] rfl rfl (by kernel_rfl) (fun _ _ _ h => h) (Or.inl ⟨by rfl, ?_⟩) ?_ ?_
              rotate_left
              · intro w'
                first | (go_simp; with_reducible rfl) | (simp [go_sem, Instr.field, asAgg] <;> with_reducible rfl)
              rotate_left
              · simp only [Act.put, List.setIfInBounds_toArray, List.set_cons_zero, List.set_cons_succ, i64_w, i32_w]
                rfl
              refine one_ (i := 8) (N := some 76) #[true, true, true, true, true, true, true, true, true, true, false] rfl rfl (by kernel_rfl) (by decide) (fun K hK => ?_)
              refine combGoes Try.func101 (by kernel_rfl) rfl #[.agg #[(.slice Avc t0.length cvc), (.slice Avm zs.length cvm)]] (by rfl) rfl rfl rfl (by simp only [List.map_toArray, List.map_cons, List.map_nil]; rfl) ?_
              refine (combLess.calls k a0_0 (.int .i64 a0_1) (.slice A0_2 l0_2.length c0_2) w.heap.size gB Ap cp parts Avc Avm t0.length cvc zs.length cvm t0 zs x.1 x.2 gx #[.slice none 0 0, .slice none 0 0] 106 wr _ BM.out BB.out HPC.out HBr.out HVC.out HVM.out hcm.out HGX.out hcx.out hmx.out B2z.out).mono ?_
              rintro e wl296 ⟨rfl, hR, hF, hb, hbx⟩
              refine ⟨_, rfl, ?_⟩
              clear HVC HVM HBr HGX
              have HVC := Aside0.mk hR
              have HVM := Aside0.mk hF
              have HBr := Aside0.mk hb
              have HGX := Aside0.mk hbx
              clear hR hF hb hbx
              refine hK.out _ _ ((blk_cell (blk_below BM.out HBr.out) 2).trans rfl) (fun hHeld => ?_)
              clear hK K
              refine norm_ (a' := ?_) ?_ ?_
              rotate_left
              · show Act.put _ (some 76) _ = _
                simp only [Act.put, List.setIfInBounds_toArray, List.set_cons_zero, List.set_cons_succ, i64_w, i32_w]
                rfl
              exact norm_ (by first | (simp only [putAll, Act.put, List.setIfInBounds_toArray, List.set_cons_zero, List.set_cons_succ]; done) | (simp only [putAll, Act.put, List.setIfInBounds_toArray, List.set_cons_zero, List.set_cons_succ]; rfl)) (hCont ((.slice Avc t0.length cvc), (.slice Avm zs.length cvm), gx) _ ⟨(blk_cell (blk_below BM.out HBr.out) 2).trans rfl, HVC.out, HVM.out, HGX.out, HGW.out, hcm.out, hcx.out, hmx.out, HBr.out⟩)
          · skip
            refine Kd.R_make_step (Kd.int .i64) _ 2 (by rfl) (N := 74) rfl 35 _ _ rfl (l0_2.length : Int) rfl rfl Try.underlying35 (.int .i64 0) 8 info2 rfl (by decide) (by omega) 0 (ok := fun _ => True) (okp := fun _ => True) rfl (fun _ hk => hk) trivial (by omega) (by have := HL20.out; simp only [Int.toNat_natCast]; omega) (Below.refl _ _) (Nat.le_refl _) ?_
            intro vm wm ho hb hg_ hnew_
            clear hg_ hnew_
            rw [Int.toNat_natCast, ← HZS.out] at ho
            obtain ⟨Avm, cvm, evm⟩ := Kd.R_slice ho
            subst evm
            have HVM : Aside0 (Kd.R (Kd.int .i64) 2 wm wr.heap.size (fun _ => True) (.slice Avm zs.length cvm) zs) := ⟨Kd.R_lower ho (below_size HBr.out)⟩
            have HB2 := Aside0.mk (below_step HBr.out hb)
            clear HBr
            have HBr := HB2
            clear HB2
            refine hK.out _ _ ((blk_cell (blk_below BM.out HBr.out) 2).trans rfl) (fun hHeld => ?_)
            clear hK K
            refine norm_ (a' := ?_) ?_ ?_
            rotate_left
            · show Act.put _ (some 74) _ = _
              simp only [Act.put, List.setIfInBounds_toArray, List.set_cons_zero, List.set_cons_succ, i64_w, i32_w]
              rfl
            refine two_ (i := 2) (j := 9) (Ni := some 70) (Nj := some 13) #[true, true, true, true, true, true, true, false, false, false, false] #[true, true, false, true, true, true, true, false, false, true, false] rfl rfl rfl rfl (by kernel_rfl) (by decide) (by decide) (fun K hK => ?_) (fun K hK => ?_)
            · skip
              refine goes_ Try.func64 (by kernel_rfl) rfl #[.slice A1 l1.length c1] (by rfl) rfl rfl (by simp only [List.map_toArray, List.map_cons, List.map_nil]; rfl) ?_
              with_reducible refine (slices_Clone_int64_int64.calls A1 c1 l1 t0 _ (Kd.C_below HR1.out (below_step HB.out HBr.out)) HC1.out B1.out).mono ?_
              rintro e wc6 ⟨vc, rfl, ho, hb⟩
              refine ⟨_, rfl, ?_⟩
              obtain ⟨Avc, cvc, evc⟩ := Kd.R_slice ho
              subst evc
              have hcm : Aside0 (∀ k, ((.slice Avc t0.length cvc) : Value).ownBlock = some k → ((.slice Avm zs.length cvm) : Value).ownBlock ≠ some k) := ⟨fun k h1 h2 => by have := Kd.R_lt HVM.out k h2; have := Kd.R_base ho k h1; omega⟩
              have HVM2 := Aside0.mk (Kd.R_below HVM.out hb)
              clear HVM
              have HVM := HVM2
              clear HVM2
              have HVC : Aside0 (Kd.R (Kd.int .i64) 2 wc6 wr.heap.size (fun _ => True) (.slice Avc t0.length cvc) t0) := ⟨Kd.R_lower ho (below_size HBr.out)⟩
              have HB2 := Aside0.mk (below_step HBr.out hb)
              clear HBr
              have HBr := HB2
              clear HB2
              refine hK.out _ _ ((blk_cell (blk_below BM.out HBr.out) 2).trans rfl) (fun hHeld => ?_)
              clear hK K
              refine norm_ (a' := ?_) ?_ ?_
              rotate_left
              · show Act.put _ (some 70) _ = _
                simp only [Act.put, List.setIfInBounds_toArray, List.set_cons_zero, List.set_cons_succ, i64_w, i32_w]
                rfl
              refine pure_ (i := 7) (N := some 75) (v := ?_) (a' := ?_) #[true, true, true, true, true, true, true, true, false, false, false] rfl rfl (by kernel_rfl) (fun _ _ _ h => h) (Or.inl ⟨by rfl, ?_⟩) ?_ ?_
              rotate_left
              · intro w'
                first | (go_simp; with_reducible rfl) | (simp [go_sem, Instr.field, asAgg] <;> with_reducible rfl)
              rotate_left
              · simp only [Act.put, List.setIfInBounds_toArray, List.set_cons_zero, List.set_cons_succ, i64_w, i32_w]
                rfl
              refine two_ (i := 8) (j := 9) (Ni := some 76) (Nj := some 13) #[true, true, true, true, true, true, true, true, true, false, false] #[true, true, true, true, true, true, true, true, false, true, false] rfl rfl rfl rfl (by kernel_rfl) (by decide) (by decide) (fun K hK => ?_) (fun K hK => ?_)
              · skip
                refine combGoes Try.func101 (by kernel_rfl) rfl #[.agg #[(.slice Avc t0.length cvc), (.slice Avm zs.length cvm)]] (by rfl) rfl rfl rfl (by simp only [List.map_toArray, List.map_cons, List.map_nil]; rfl) ?_
                refine (combLess.calls k a0_0 (.int .i64 a0_1) (.slice A0_2 l0_2.length c0_2) w.heap.size gB Ap cp parts Avc Avm t0.length cvc zs.length cvm t0 zs x.1 x.2 w.heap.size #[.int .i64 a0_0, .int .i64 a0_1, .slice A0_2 l0_2.length c0_2] 26 wr _ BM.out BB.out HPC.out HBr.out HVC.out HVM.out hcm.out (blk_below BM.out HBr.out) (fun k h1 h2 => by have := Kd.R_base HVC.out k h1; have := blk_lt BM.out; omega) (fun k h1 h2 => by have := Kd.R_base HVM.out k h1; have := blk_lt BM.out; omega) B2z.out).mono ?_
                rintro e wl62 ⟨rfl, hR, hF, hb, hbx⟩
                refine ⟨_, rfl, ?_⟩
                clear HVC HVM HBr
                have HVC := Aside0.mk hR
                have HVM := Aside0.mk hF
                have HBr := Aside0.mk hb
                clear hR hF hb hbx
                refine hK.out _ _ ((blk_cell (blk_below BM.out HBr.out) 2).trans rfl) (fun hHeld => ?_)
                clear hK K
                refine norm_ (a' := ?_) ?_ ?_
                rotate_left
                · show Act.put _ (some 76) _ = _
                  simp only [Act.put, List.setIfInBounds_toArray, List.set_cons_zero, List.set_cons_succ, i64_w, i32_w]
                  rfl
                refine one_ (i := 9) (N := some 13) #[true, true, true, true, true, true, true, true, true, true, false] rfl rfl (by kernel_rfl) (by decide) (fun K hK => ?_)
                refine box_step (by rfl) (N := 13) rfl (cs := #[.slice none 0 0, .slice none 0 0]) (t := 106) ?_ ?_
                · first | (go_simp; done) | (go_simp; rfl)
                intro gx hgx wx628 hbox hb
                have hmx : Aside0 (∀ k, ((.slice Avm zs.length cvm) : Value).ownBlock = some k → k ≠ gx) := ⟨fun k h1 h2 => by have := Kd.R_lt HVM.out k h1; omega⟩
                have HVM2 := Aside0.mk (Kd.R_below HVM.out hb)
                clear HVM
                have HVM := HVM2
                clear HVM2
                have hcx : Aside0 (∀ k, ((.slice Avc t0.length cvc) : Value).ownBlock = some k → k ≠ gx) := ⟨fun k h1 h2 => by have := Kd.R_lt HVC.out k h1; omega⟩
                have HVC2 := Aside0.mk (Kd.R_below HVC.out hb)
                clear HVC
                have HVC := HVC2
                clear HVC2
                have HGX := Aside0.mk hbox
                have HGW : Aside0 (wr.heap.size ≤ gx) := ⟨by rw [hgx]; exact (below_size HBr.out)⟩
                have HB2 := Aside0.mk (below_step HBr.out hb)
                clear HBr
                have HBr := HB2
                clear HB2
                refine hK.out _ _ ((blk_cell (blk_below BM.out HBr.out) 2).trans rfl) (fun hHeld => ?_)
                clear hK K
                refine norm_ (a' := ?_) ?_ ?_
                rotate_left
                · show Act.put _ (some 13) _ = _
                  simp only [Act.put, List.setIfInBounds_toArray, List.set_cons_zero, List.set_cons_succ, i64_w, i32_w]
                  rfl
                exact norm_ (by first | (simp only [putAll, Act.put, List.setIfInBounds_toArray, List.set_cons_zero, List.set_cons_succ]; done) | (simp only [putAll, Act.put, List.setIfInBounds_toArray, List.set_cons_zero, List.set_cons_succ]; rfl)) (hCont ((.slice Avc t0.length cvc), (.slice Avm zs.length cvm), gx) _ ⟨(blk_cell (blk_below BM.out HBr.out) 2).trans rfl, HVC.out, HVM.out, HGX.out, HGW.out, hcm.out, hcx.out, hmx.out, HBr.out⟩)
              · skip
                refine box_step (by rfl) (N := 13) rfl (cs := #[.slice none 0 0, .slice none 0 0]) (t := 106) ?_ ?_
                · first | (go_simp; done) | (go_simp; rfl)
                intro gx hgx wx62 hbox hb
                have hmx : Aside0 (∀ k, ((.slice Avm zs.length cvm) : Value).ownBlock = some k → k ≠ gx) := ⟨fun k h1 h2 => by have := Kd.R_lt HVM.out k h1; omega⟩
                have HVM2 := Aside0.mk (Kd.R_below HVM.out hb)
                clear HVM
                have HVM := HVM2
                clear HVM2
                have hcx : Aside0 (∀ k, ((.slice Avc t0.length cvc) : Value).ownBlock = some k → k ≠ gx) := ⟨fun k h1 h2 => by have := Kd.R_lt HVC.out k h1; omega⟩
                have HVC2 := Aside0.mk (Kd.R_below HVC.out hb)
                clear HVC
                have HVC := HVC2
                clear HVC2
                have HGX := Aside0.mk hbox
                have HGW : Aside0 (wr.heap.size ≤ gx) := ⟨by rw [hgx]; exact (below_size HBr.out)⟩
                have HB2 := Aside0.mk (below_step HBr.out hb)
                clear HBr
                have HBr := HB2
                clear HB2
                refine hK.out _ _ ((blk_cell (blk_below BM.out HBr.out) 2).trans rfl) (fun hHeld => ?_)
                clear hK K
                refine norm_ (a' := ?_) ?_ ?_
                rotate_left
                · show Act.put _ (some 13) _ = _
                  simp only [Act.put, List.setIfInBounds_toArray, List.set_cons_zero, List.set_cons_succ, i64_w, i32_w]
                  rfl
                refine one_ (i := 8) (N := some 76) #[true, true, true, true, true, true, true, true, true, true, false] rfl rfl (by kernel_rfl) (by decide) (fun K hK => ?_)
                refine combGoes Try.func101 (by kernel_rfl) rfl #[.agg #[(.slice Avc t0.length cvc), (.slice Avm zs.length cvm)]] (by rfl) rfl rfl rfl (by simp only [List.map_toArray, List.map_cons, List.map_nil]; rfl) ?_
                refine (combLess.calls k a0_0 (.int .i64 a0_1) (.slice A0_2 l0_2.length c0_2) w.heap.size gB Ap cp parts Avc Avm t0.length cvc zs.length cvm t0 zs x.1 x.2 gx #[.slice none 0 0, .slice none 0 0] 106 wr _ BM.out BB.out HPC.out HBr.out HVC.out HVM.out hcm.out HGX.out hcx.out hmx.out B2z.out).mono ?_
                rintro e wl629 ⟨rfl, hR, hF, hb, hbx⟩
                refine ⟨_, rfl, ?_⟩
                clear HVC HVM HBr HGX
                have HVC := Aside0.mk hR
                have HVM := Aside0.mk hF
                have HBr := Aside0.mk hb
                have HGX := Aside0.mk hbx
                clear hR hF hb hbx
                refine hK.out _ _ ((blk_cell (blk_below BM.out HBr.out) 2).trans rfl) (fun hHeld => ?_)
                clear hK K
                refine norm_ (a' := ?_) ?_ ?_
                rotate_left
                · show Act.put _ (some 76) _ = _
                  simp only [Act.put, List.setIfInBounds_toArray, List.set_cons_zero, List.set_cons_succ, i64_w, i32_w]
                  rfl
                exact norm_ (by first | (simp only [putAll, Act.put, List.setIfInBounds_toArray, List.set_cons_zero, List.set_cons_succ]; done) | (simp only [putAll, Act.put, List.setIfInBounds_toArray, List.set_cons_zero, List.set_cons_succ]; rfl)) (hCont ((.slice Avc t0.length cvc), (.slice Avm zs.length cvm), gx) _ ⟨(blk_cell (blk_below BM.out HBr.out) 2).trans rfl, HVC.out, HVM.out, HGX.out, HGW.out, hcm.out, hcx.out, hmx.out, HBr.out⟩)
            · skip
              refine box_step (by rfl) (N := 13) rfl (cs := #[.slice none 0 0, .slice none 0 0]) (t := 106) ?_ ?_
              · first | (go_simp; done) | (go_simp; rfl)
              intro gx hgx wx6 hbox hb
              have hmx : Aside0 (∀ k, ((.slice Avm zs.length cvm) : Value).ownBlock = some k → k ≠ gx) := ⟨fun k h1 h2 => by have := Kd.R_lt HVM.out k h1; omega⟩
              have HVM2 := Aside0.mk (Kd.R_below HVM.out hb)
              clear HVM
              have HVM := HVM2
              clear HVM2
              have HGX := Aside0.mk hbox
              have HGW : Aside0 (wr.heap.size ≤ gx) := ⟨by rw [hgx]; exact (below_size HBr.out)⟩
              have HB2 := Aside0.mk (below_step HBr.out hb)
              clear HBr
              have HBr := HB2
              clear HB2
              refine hK.out _ _ ((blk_cell (blk_below BM.out HBr.out) 2).trans rfl) (fun hHeld => ?_)
              clear hK K
              refine norm_ (a' := ?_) ?_ ?_
              rotate_left
              · show Act.put _ (some 13) _ = _
                simp only [Act.put, List.setIfInBounds_toArray, List.set_cons_zero, List.set_cons_succ, i64_w, i32_w]
                rfl
              refine one_ (i := 2) (N := some 70) #[true, true, true, true, true, true, true, false, false, true, false] rfl rfl (by kernel_rfl) (by decide) (fun K hK => ?_)
              refine goes_ Try.func64 (by kernel_rfl) rfl #[.slice A1 l1.length c1] (by rfl) rfl rfl (by simp only [List.map_toArray, List.map_cons, List.map_nil]; rfl) ?_
              with_reducible refine (slices_Clone_int64_int64.calls A1 c1 l1 t0 _ (Kd.C_below HR1.out (below_step HB.out HBr.out)) HC1.out B1.out).mono ?_
              rintro e wc69 ⟨vc, rfl, ho, hb⟩
              refine ⟨_, rfl, ?_⟩
              obtain ⟨Avc, cvc, evc⟩ := Kd.R_slice ho
              subst evc
              have hcm : Aside0 (∀ k, ((.slice Avc t0.length cvc) : Value).ownBlock = some k → ((.slice Avm zs.length cvm) : Value).ownBlock ≠ some k) := ⟨fun k h1 h2 => by have := Kd.R_lt HVM.out k h2; have := Kd.R_base ho k h1; omega⟩
              have HVM2 := Aside0.mk (Kd.R_below HVM.out hb)
              clear HVM
              have HVM := HVM2
              clear HVM2
              have hcx : Aside0 (∀ k, ((.slice Avc t0.length cvc) : Value).ownBlock = some k → k ≠ gx) := ⟨fun k h1 h2 => by have := blk_lt HGX.out; have := Kd.R_base ho k h1; omega⟩
              have HGX2 := Aside0.mk (blk_below HGX.out hb)
              clear HGX
              have HGX := HGX2
              clear HGX2
              have HVC : Aside0 (Kd.R (Kd.int .i64) 2 wc69 wr.heap.size (fun _ => True) (.slice Avc t0.length cvc) t0) := ⟨Kd.R_lower ho (below_size HBr.out)⟩
              have HB2 := Aside0.mk (below_step HBr.out hb)
              clear HBr
              have HBr := HB2
              clear HB2
              refine hK.out _ _ ((blk_cell (blk_below BM.out HBr.out) 2).trans rfl) (fun hHeld => ?_)
              clear hK K
              refine norm_ (a' := ?_) ?_ ?_
              rotate_left
              · show Act.put _ (some 70) _ = _
                simp only [Act.put, List.setIfInBounds_toArray, List.set_cons_zero, List.set_cons_succ, i64_w, i32_w]
                rfl
              refine pure_ (i := 7) (N := some 75) (v := ?_) (a' := ?_) #[true, true, true, true, true, true, true, true, false, true, false] rfl rfl (by kernel_rfl) (fun _ _ _ h => h) (Or.inl ⟨by rfl, ?_⟩) ?_ ?_
              rotate_left
              · intro w'
                first | (go_simp; with_reducible rfl) | (simp [go_sem, Instr.field, asAgg] <;> with_reducible rfl)
              rotate_left
              · simp only [Act.put, List.setIfInBounds_toArray, List.set_cons_zero, List.set_cons_succ, i64_w, i32_w]
                rfl
              refine one_ (i := 8) (N := some 76) #[true, true, true, true, true, true, true, true, true, true, false] rfl rfl (by kernel_rfl) (by decide) (fun K hK => ?_)
              refine combGoes Try.func101 (by kernel_rfl) rfl #[.agg #[(.slice Avc t0.length cvc), (.slice Avm zs.length cvm)]] (by rfl) rfl rfl rfl (by simp only [List.map_toArray, List.map_cons, List.map_nil]; rfl) ?_
              refine (combLess.calls k a0_0 (.int .i64 a0_1) (.slice A0_2 l0_2.length c0_2) w.heap.size gB Ap cp parts Avc Avm t0.length cvc zs.length cvm t0 zs x.1 x.2 gx #[.slice none 0 0, .slice none 0 0] 106 wr _ BM.out BB.out HPC.out HBr.out HVC.out HVM.out hcm.out HGX.out hcx.out hmx.out B2z.out).mono ?_
              rintro e wl692 ⟨rfl, hR, hF, hb, hbx⟩
              refine ⟨_, rfl, ?_⟩
              clear HVC HVM HBr HGX
              have HVC := Aside0.mk hR
              have HVM := Aside0.mk hF
              have HBr := Aside0.mk hb
              have HGX := Aside0.mk hbx
              clear hR hF hb hbx
              refine hK.out _ _ ((blk_cell (blk_below BM.out HBr.out) 2).trans rfl) (fun hHeld => ?_)
              clear hK K
              refine norm_ (a' := ?_) ?_ ?_
              rotate_left
              · show Act.put _ (some 76) _ = _
                simp only [Act.put, List.setIfInBounds_toArray, List.set_cons_zero, List.set_cons_succ, i64_w, i32_w]
                rfl
              exact norm_ (by first | (simp only [putAll, Act.put, List.setIfInBounds_toArray, List.set_cons_zero, List.set_cons_succ]; done) | (simp only [putAll, Act.put, List.setIfInBounds_toArray, List.set_cons_zero, List.set_cons_succ]; rfl)) (hCont ((.slice Avc t0.length cvc), (.slice Avm zs.length cvm), gx) _ ⟨(blk_cell (blk_below BM.out HBr.out) 2).trans rfl, HVC.out, HVM.out, HGX.out, HGW.out, hcm.out, hcx.out, hmx.out, HBr.out⟩)
          · skip
            refine box_step (by rfl) (N := 13) rfl (cs := #[.slice none 0 0, .slice none 0 0]) (t := 106) ?_ ?_
            · first | (go_simp; done) | (go_simp; rfl)
            intro gx hgx wx hbox hb
            have HGX := Aside0.mk hbox
            have HGW : Aside0 (wr.heap.size ≤ gx) := ⟨by rw [hgx]; exact (below_size HBr.out)⟩
            have HB2 := Aside0.mk (below_step HBr.out hb)
            clear HBr
            have HBr := HB2
            clear HB2
            refine hK.out _ _ ((blk_cell (blk_below BM.out HBr.out) 2).trans rfl) (fun hHeld => ?_)
            clear hK K
            refine norm_ (a' := ?_) ?_ ?_
            rotate_left
            · show Act.put _ (some 13) _ = _
              simp only [Act.put, List.setIfInBounds_toArray, List.set_cons_zero, List.set_cons_succ, i64_w, i32_w]
              rfl
            refine two_ (i := 2) (j := 6) (Ni := some 70) (Nj := some 74) #[true, true, true, true, true, true, false, false, false, true, false] #[true, true, false, true, true, true, true, false, false, true, false] rfl rfl rfl rfl (by kernel_rfl) (by decide) (by decide) (fun K hK => ?_) (fun K hK => ?_)
            · skip
              refine goes_ Try.func64 (by kernel_rfl) rfl #[.slice A1 l1.length c1] (by rfl) rfl rfl (by simp only [List.map_toArray, List.map_cons, List.map_nil]; rfl) ?_
              with_reducible refine (slices_Clone_int64_int64.calls A1 c1 l1 t0 _ (Kd.C_below HR1.out (below_step HB.out HBr.out)) HC1.out B1.out).mono ?_
              rintro e wc9 ⟨vc, rfl, ho, hb⟩
              refine ⟨_, rfl, ?_⟩
              obtain ⟨Avc, cvc, evc⟩ := Kd.R_slice ho
              subst evc
              have hcx : Aside0 (∀ k, ((.slice Avc t0.length cvc) : Value).ownBlock = some k → k ≠ gx) := ⟨fun k h1 h2 => by have := blk_lt HGX.out; have := Kd.R_base ho k h1; omega⟩
              have HGX2 := Aside0.mk (blk_below HGX.out hb)
              clear HGX
              have HGX := HGX2
              clear HGX2
              have HVC : Aside0 (Kd.R (Kd.int .i64) 2 wc9 wr.heap.size (fun _ => True) (.slice Avc t0.length cvc) t0) := ⟨Kd.R_lower ho (below_size HBr.out)⟩
              have HB2 := Aside0.mk (below_step HBr.out hb)
              clear HBr
              have HBr := HB2
              clear HB2
              refine hK.out _ _ ((blk_cell (blk_below BM.out HBr.out) 2).trans rfl) (fun hHeld => ?_)
              clear hK K
              refine norm_ (a' := ?_) ?_ ?_
              rotate_left
              · show Act.put _ (some 70) _ = _
                simp only [Act.put, List.setIfInBounds_toArray, List.set_cons_zero, List.set_cons_succ, i64_w, i32_w]
                rfl
              refine one_ (i := 6) (N := some 74) #[true, true, true, true, true, true, true, false, false, true, false] rfl rfl (by kernel_rfl) (by decide) (fun K hK => ?_)
              refine Kd.R_make_step (Kd.int .i64) _ 2 (by rfl) (N := 74) rfl 35 _ _ rfl (l0_2.length : Int) rfl rfl Try.underlying35 (.int .i64 0) 8 info2 rfl (by decide) (by omega) 0 (ok := fun _ => True) (okp := fun _ => True) rfl (fun _ hk => hk) trivial (by omega) (by have := HL20.out; simp only [Int.toNat_natCast]; omega) (Below.refl _ _) (Nat.le_refl _) ?_
              intro vm wm92 ho hb hg_ hnew_
              clear hg_ hnew_
              rw [Int.toNat_natCast, ← HZS.out] at ho
              obtain ⟨Avm, cvm, evm⟩ := Kd.R_slice ho
              subst evm
              have hmx : Aside0 (∀ k, ((.slice Avm zs.length cvm) : Value).ownBlock = some k → k ≠ gx) := ⟨fun k h1 h2 => by have := blk_lt HGX.out; have := Kd.R_base ho k h1; omega⟩
              have HGX2 := Aside0.mk (blk_below HGX.out hb)
              clear HGX
              have HGX := HGX2
              clear HGX2
              have hcm : Aside0 (∀ k, ((.slice Avc t0.length cvc) : Value).ownBlock = some k → ((.slice Avm zs.length cvm) : Value).ownBlock ≠ some k) := ⟨fun k h1 h2 => by have := Kd.R_lt HVC.out k h1; have := Kd.R_base ho k h2; omega⟩
              have HVC2 := Aside0.mk (Kd.R_below HVC.out hb)
              clear HVC
              have HVC := HVC2
              clear HVC2
              have HVM : Aside0 (Kd.R (Kd.int .i64) 2 wm92 wr.heap.size (fun _ => True) (.slice Avm zs.length cvm) zs) := ⟨Kd.R_lower ho (below_size HBr.out)⟩
              have HB2 := Aside0.mk (below_step HBr.out hb)
              clear HBr
              have HBr := HB2
              clear HB2
              refine hK.out _ _ ((blk_cell (blk_below BM.out HBr.out) 2).trans rfl) (fun hHeld => ?_)
              clear hK K
              refine norm_ (a' := ?_) ?_ ?_
              rotate_left
              · show Act.put _ (some 74) _ = _
                simp only [Act.put, List.setIfInBounds_toArray, List.set_cons_zero, List.set_cons_succ, i64_w, i32_w]
                rfl
              refine pure_ (i := 7) (N := some 75) (v := ?_) (a' := ?_) #[true, true, true, true, true, true, true, true, false, true, false] rfl rfl (by kernel_rfl) (fun _ _ _ h => h) (Or.inl ⟨by rfl, ?_⟩) ?_ ?_
              rotate_left
              · intro w'
                first | (go_simp; with_reducible rfl) | (simp [go_sem, Instr.field, asAgg] <;> with_reducible rfl)
              rotate_left
              · simp only [Act.put, List.setIfInBounds_toArray, List.set_cons_zero, List.set_cons_succ, i64_w, i32_w]
                rfl
              refine one_ (i := 8) (N := some 76) #[true, true, true, true, true, true, true, true, true, true, false] rfl rfl (by kernel_rfl) (by decide) (fun K hK => ?_)
              refine combGoes Try.func101 (by kernel_rfl) rfl #[.agg #[(.slice Avc t0.length cvc), (.slice Avm zs.length cvm)]] (by rfl) rfl rfl rfl (by simp only [List.map_toArray, List.map_cons, List.map_nil]; rfl) ?_
              refine (combLess.calls k a0_0 (.int .i64 a0_1) (.slice A0_2 l0_2.length c0_2) w.heap.size gB Ap cp parts Avc Avm t0.length cvc zs.length cvm t0 zs x.1 x.2 gx #[.slice none 0 0, .slice none 0 0] 106 wr _ BM.out BB.out HPC.out HBr.out HVC.out HVM.out hcm.out HGX.out hcx.out hmx.out B2z.out).mono ?_
              rintro e wl926 ⟨rfl, hR, hF, hb, hbx⟩
              refine ⟨_, rfl, ?_⟩
              clear HVC HVM HBr HGX
              have HVC := Aside0.mk hR
              have HVM := Aside0.mk hF
              have HBr := Aside0.mk hb
              have HGX := Aside0.mk hbx
              clear hR hF hb hbx
              refine hK.out _ _ ((blk_cell (blk_below BM.out HBr.out) 2).trans rfl) (fun hHeld => ?_)
              clear hK K
              refine norm_ (a' := ?_) ?_ ?_
              rotate_left
              · show Act.put _ (some 76) _ = _
                simp only [Act.put, List.setIfInBounds_toArray, List.set_cons_zero, List.set_cons_succ, i64_w, i32_w]
                rfl
              exact norm_ (by first | (simp only [putAll, Act.put, List.setIfInBounds_toArray, List.set_cons_zero, List.set_cons_succ]; done) | (simp only [putAll, Act.put, List.setIfInBounds_toArray, List.set_cons_zero, List.set_cons_succ]; rfl)) (hCont ((.slice Avc t0.length cvc), (.slice Avm zs.length cvm), gx) _ ⟨(blk_cell (blk_below BM.out HBr.out) 2).trans rfl, HVC.out, HVM.out, HGX.out, HGW.out, hcm.out, hcx.out, hmx.out, HBr.out⟩)
            · skip
              refine Kd.R_make_step (Kd.int .i64) _ 2 (by rfl) (N := 74) rfl 35 _ _ rfl (l0_2.length : Int) rfl rfl Try.underlying35 (.int .i64 0) 8 info2 rfl (by decide) (by omega) 0 (ok := fun _ => True) (okp := fun _ => True) rfl (fun _ hk => hk) trivial (by omega) (by have := HL20.out; simp only [Int.toNat_natCast]; omega) (Below.refl _ _) (Nat.le_refl _) ?_
              intro vm wm9 ho hb hg_ hnew_
              clear hg_ hnew_
              rw [Int.toNat_natCast, ← HZS.out] at ho
              obtain ⟨Avm, cvm, evm⟩ := Kd.R_slice ho
              subst evm
              have hmx : Aside0 (∀ k, ((.slice Avm zs.length cvm) : Value).ownBlock = some k → k ≠ gx) := ⟨fun k h1 h2 => by have := blk_lt HGX.out; have := Kd.R_base ho k h1; omega⟩
              have HGX2 := Aside0.mk (blk_below HGX.out hb)
              clear HGX
              have HGX := HGX2
              clear HGX2
              have HVM : Aside0 (Kd.R (Kd.int .i64) 2 wm9 wr.heap.size (fun _ => True) (.slice Avm zs.length cvm) zs) := ⟨Kd.R_lower ho (below_size HBr.out)⟩
              have HB2 := Aside0.mk (below_step HBr.out hb)
              clear HBr
              have HBr := HB2
              clear HB2
              refine hK.out _ _ ((blk_cell (blk_below BM.out HBr.out) 2).trans rfl) (fun hHeld => ?_)
              clear hK K
              refine norm_ (a' := ?_) ?_ ?_
              rotate_left
              · show Act.put _ (some 74) _ = _
                simp only [Act.put, List.setIfInBounds_toArray, List.set_cons_zero, List.set_cons_succ, i64_w, i32_w]
                rfl
              refine one_ (i := 2) (N := some 70) #[true, true, true, true, true, true, true, false, false, true, false] rfl rfl (by kernel_rfl) (by decide) (fun K hK => ?_)
              refine goes_ Try.func64 (by kernel_rfl) rfl #[.slice A1 l1.length c1] (by rfl) rfl rfl (by simp only [List.map_toArray, List.map_cons, List.map_nil]; rfl) ?_
              with_reducible refine (slices_Clone_int64_int64.calls A1 c1 l1 t0 _ (Kd.C_below HR1.out (below_step HB.out HBr.out)) HC1.out B1.out).mono ?_
              rintro e wc96 ⟨vc, rfl, ho, hb⟩
              refine ⟨_, rfl, ?_⟩
              obtain ⟨Avc, cvc, evc⟩ := Kd.R_slice ho
              subst evc
              have hcx : Aside0 (∀ k, ((.slice Avc t0.length cvc) : Value).ownBlock = some k → k ≠ gx) := ⟨fun k h1 h2 => by have := blk_lt HGX.out; have := Kd.R_base ho k h1; omega⟩
              have HGX2 := Aside0.mk (blk_below HGX.out hb)
              clear HGX
              have HGX := HGX2
              clear HGX2
              have hcm : Aside0 (∀ k, ((.slice Avc t0.length cvc) : Value).ownBlock = some k → ((.slice Avm zs.length cvm) : Value).ownBlock ≠ some k) := ⟨fun k h1 h2 => by have := Kd.R_lt HVM.out k h2; have := Kd.R_base ho k h1; omega⟩
              have HVM2 := Aside0.mk (Kd.R_below HVM.out hb)
              clear HVM
              have HVM := HVM2
              clear HVM2
              have HVC : Aside0 (Kd.R (Kd.int .i64) 2 wc96 wr.heap.size (fun _ => True) (.slice Avc t0.length cvc) t0) := ⟨Kd.R_lower ho (below_size HBr.out)⟩
              have HB2 := Aside0.mk (below_step HBr.out hb)
              clear HBr
              have HBr := HB2
              clear HB2
              refine hK.out _ _ ((blk_cell (blk_below BM.out HBr.out) 2).trans rfl) (fun hHeld => ?_)
              clear hK K
              refine norm_ (a' := ?_) ?_ ?_
              rotate_left
              · show Act.put _ (some 70) _ = _
                simp only [Act.put, List.setIfInBounds_toArray, List.set_cons_zero, List.set_cons_succ, i64_w, i32_w]
                rfl
              refine pure_ (i := 7) (N := some 75) (v := ?_) (a' := ?_) #[true, true, true, true, true, true, true, true, false, true, false] rfl rfl (by kernel_rfl) (fun _ _ _ h => h) (Or.inl ⟨by rfl, ?_⟩) ?_ ?_
              rotate_left
              · intro w'
                first | (go_simp; with_reducible rfl) | (simp [go_sem, Instr.field, asAgg] <;> with_reducible rfl)
              rotate_left
              · simp only [Act.put, List.setIfInBounds_toArray, List.set_cons_zero, List.set_cons_succ, i64_w, i32_w]
                rfl
              refine one_ (i := 8) (N := some 76) #[true, true, true, true, true, true, true, true, true, true, false] rfl rfl (by kernel_rfl) (by decide) (fun K hK => ?_)
              refine combGoes Try.func101 (by kernel_rfl) rfl #[.agg #[(.slice Avc t0.length cvc), (.slice Avm zs.length cvm)]] (by rfl) rfl rfl rfl (by simp only [List.map_toArray, List.map_cons, List.map_nil]; rfl) ?_
              refine (combLess.calls k a0_0 (.int .i64 a0_1) (.slice A0_2 l0_2.length c0_2) w.heap.size gB Ap cp parts Avc Avm t0.length cvc zs.length cvm t0 zs x.1 x.2 gx #[.slice none 0 0, .slice none 0 0] 106 wr _ BM.out BB.out HPC.out HBr.out HVC.out HVM.out hcm.out HGX.out hcx.out hmx.out B2z.out).mono ?_
              rintro e wl962 ⟨rfl, hR, hF, hb, hbx⟩
              refine ⟨_, rfl, ?_⟩
              clear HVC HVM HBr HGX
              have HVC := Aside0.mk hR
              have HVM := Aside0.mk hF
              have HBr := Aside0.mk hb
              have HGX := Aside0.mk hbx
              clear hR hF hb hbx
              refine hK.out _ _ ((blk_cell (blk_below BM.out HBr.out) 2).trans rfl) (fun hHeld => ?_)
              clear hK K
              refine norm_ (a' := ?_) ?_ ?_
              rotate_left
              · show Act.put _ (some 76) _ = _
                simp only [Act.put, List.setIfInBounds_toArray, List.set_cons_zero, List.set_cons_succ, i64_w, i32_w]
                rfl
              exact norm_ (by first | (simp only [putAll, Act.put, List.setIfInBounds_toArray, List.set_cons_zero, List.set_cons_succ]; done) | (simp only [putAll, Act.put, List.setIfInBounds_toArray, List.set_cons_zero, List.set_cons_succ]; rfl)) (hCont ((.slice Avc t0.length cvc), (.slice Avm zs.length cvm), gx) _ ⟨(blk_cell (blk_below BM.out HBr.out) 2).trans rfl, HVC.out, HVM.out, HGX.out, HGW.out, hcm.out, hcx.out, hmx.out, HBr.out⟩)
        rintro ⟨vc, vm, gx⟩ w16 ⟨hHeld0, hvc, hvm, hgx, hgw, hcm, hcx, hmx, hbr⟩
        obtain ⟨Avc, cvc, evc⟩ := Kd.R_slice hvc
        subst evc
        obtain ⟨Avm, cvm, evm⟩ := Kd.R_slice hvm
        subst evm
        have hHeld : w16.cell? ⟨w.heap.size, 2, none⟩ = some (.slice A0_2 l0_2.length c0_2) := hHeld0
        have HX0 := Aside0.mk (CombX.mk' hvc hvm hgx hbr hcm hcx hmx hgw)
        have hz0 : w16.cell? ⟨gx, 0, none⟩ = some (.slice none 0 0) := (blk_cell hgx 0).trans rfl
        have hz1 : w16.cell? ⟨gx, 1, none⟩ = some (.slice none 0 0) := (blk_cell hgx 1).trans rfl
        have hzf0 := blk_frozen hgx 0
        have hzf1 := blk_frozen hgx 1
        clear hHeld0 hvc hvm hgx hgw hcm hcx hmx hbr
        refine norm_ (a' := ?_) ?_ ?_
        rotate_left
        · simp only [putAll, Act.put, List.setIfInBounds_toArray, List.set_cons_zero, List.set_cons_succ]
          rfl
        refine last_ (i := 10) (N := none) #[true, true, true, true, true, true, true, true, true, true, true] rfl rfl (by kernel_rfl) (by decide) (fun K hK => ?_)
        refine skip_ (w1 := ?_) (by rfl) rfl ?_ ?_
        rotate_left
        · go_simp
          rfl
        refine hK.out _ _ ?_
        clear hK K
        refine done_ (by kernel_rfl) ?_
        clear hHeld hz0 hz1 hzf0 hzf1
        have X17 := Aside0.mk (HX0.out.put (.slice Avc x.1.length cvc) (.slice Avm x.2.length cvm))
        clear HX0
        generalize (w16.setCell ⟨gx, 0, none⟩ (.slice Avc x.1.length cvc)).setCell ⟨gx, 1, none⟩ (.slice Avm x.2.length cvm) = w17 at X17 ⊢
        have hx0 : w17.cell? ⟨gx, 0, none⟩ = some (.slice Avc x.1.length cvc) := (blk_cell X17.out.box 0).trans rfl
        have hx1 : w17.cell? ⟨gx, 1, none⟩ = some (.slice Avm x.2.length cvm) := (blk_cell X17.out.box 1).trans rfl
        by_cases cf : 0 ≤ f
        · have H := H1.out
          rw [if_pos cf] at H
          clear H1
          obtain ⟨rfl, rfl⟩ := (by simpa using H : [] = r1 ∧ false = r2)
          clear H
          have cfb : decide (0 ≤ f) = true := decide_eq_true cf
          replace cf := Aside0.mk cf
          go_wp2_with (first | (go_at_call 102; (with_reducible refine (impl_first.calls k Avc cvc x.1 f _ ?sC ?sL B3.out).mono ?_); (case sC => exact X17.out.cx_); (case sL => exact X17.out.lx); rintro e w18 ⟨rfl, hb⟩; have X18 := Aside0.mk (X17.out.below hb); clear hb X17 hx0 hx1 B3))
          go_ret2
          exact ⟨_, rfl, Kd.R_nil _ _ _ _ _, below_step HB.out X18.out.be⟩
        · have H := H1.out
          rw [if_neg cf] at H
          clear H1
          replace H := Option.bind_eq_some_iff.mp H
          obtain ⟨out, At, H⟩ := H
          have B4 := Aside0.mk At
          clear At
          obtain ⟨rfl, rfl⟩ := (by simpa using H : out = r1 ∧ true = r2)
          clear H
          have cfb : decide (0 ≤ f) = false := decide_eq_false cf
          replace cf := Aside0.mk cf
          go_wp2_with (first | (go_at_call 102; (with_reducible refine (impl_first.calls k Avc cvc x.1 f _ ?sC ?sL B3.out).mono ?_); (case sC => exact X17.out.cx_); (case sL => exact X17.out.lx); rintro e w18 ⟨rfl, hb⟩; have X18 := Aside0.mk (X17.out.below hb); clear hb X17 hx0 hx1 B3; have hm0 : w18.cell? ⟨w.heap.size, 0, none⟩ = some (.int .i64 a0_0) := (blk_cell (blk_below BM.out X18.out.be) 0).trans rfl; have hx1 : w18.cell? ⟨gx, 1, none⟩ = some (.slice Avm x.2.length cvm) := (blk_cell X18.out.box 1).trans rfl) | (go_at_call 69; (with_reducible refine (impl_scaled.calls k a0_0 (fun k_ => some k_ = ((.slice Avm x.2.length cvm) : Value).ownBlock) (.slice Avm x.2.length cvm) x.2 (wrap64 (a0_0 - 1)) out wr _ ?sB ?sR B4.out).mono ?_); (case sB => exact X18.out.be); (case sR => exact X18.out.hf); rintro e w19 ⟨rfl, hR, hb, hK⟩; have X19 := Aside0.mk (X18.out.scf hR hb hK); have HR19 := Aside0.mk hR; clear hR hb hK X18 B4 hm0 hx1; have hx1 : w19.cell? ⟨gx, 1, none⟩ = some (.slice Avm x.2.length cvm) := (blk_cell X19.out.box 1).trans rfl))
          go_ret2
          exact ⟨_, rfl, Kd.R_mono (Kd.R_lower HR19.out (below_size HB.out)) (fun _ _ => trivial), below_step HB.out X19.out.be⟩

end Go.Proofs.Ytjpbemomocccaaa.P

namespace Go.Proofs.Ytjpbemomocccaaa.P
open Go.RowKit Go.Proofs.YtjpbemomocccaaaW.PrintWords Go.Proofs.YtjpbemomocccaaaW.PrintLast Go.Proofs.YtjpbemomocccaaaW.PrintMore
attribute [local go_sem] max2_int min2_int max_two min_two max_three min_three max_four min_four
set_option linter.unusedVariables false
set_option linter.unusedSimpArgs false

/-! ### impl_Combination: function 30 -/
def impl_Combination.f (k : Nat) (a0_0 : Int) (a0_1 : Int) (l0_2 : List (List Int)) (l1 : List Int) : Option (List Int × Int) := (impl_targetCode.f k a0_0 a0_1 l0_2 l1 a0_1).bind fun t464 => (if t464 = 0 then ((impl_Matrix_combination.f k a0_0 a0_1 l0_2 l1).bind fun bt465 => (if bt465.2 = true then (some (bt465.1, 0)) else (some (([] : List Int), 6)))) else (some (([] : List Int), t464)))
set_option maxHeartbeats 8000000 in
set_option maxRecDepth 100000 in
theorem impl_Combination.calls (k : Nat) (a0_0 : Int) (a0_1 : Int) (A0_2 : Option Addr) (c0_2 : Nat) (l0_2 : List (List Int)) (A1 : Option Addr) (c1 : Nat) (l1 : List Int) (r1 : List Int) (r2 : Int) (w : World) (hr0_2 : Kd.C (Kd.slice 2 (Kd.int .i64)) w A0_2 l0_2.length l0_2) (hc0_2 : l0_2.length ≤ c0_2) (hr1 : Kd.C (Kd.int .i64) w A1 l1.length l1) (hc1 : l1.length ≤ c1) (h : impl_Combination.f k a0_0 a0_1 l0_2 l1 = some (r1, r2)) :
    Calls Try.prog 30 #[.agg #[.int .i64 a0_0, .int .i64 a0_1, .slice A0_2 l0_2.length c0_2], .slice A1 l1.length c1] w fun e w' => ∃ v0_ : Value, e = .returned (.tuple #[v0_, .int .i64 r2]) ∧ Kd.R (Kd.int .i64) 2 w' w.heap.size (fun _ => True) v0_ r1 ∧ Below w.heap.size w w' := by
  have hu26 := Try.underlying26
  have HR0_2 := Aside0.mk hr0_2
  have HC0_2 := Aside0.mk hc0_2
  clear hr0_2 hc0_2
  have HR1 := Aside0.mk hr1
  have HC1 := Aside0.mk hc1
  clear hr1 hc1
  have HB := Aside0.mk (Below.refl w.heap.size w)
  have H : ((impl_targetCode.f k a0_0 a0_1 l0_2 l1 a0_1).bind fun t464 => (if t464 = 0 then ((impl_Matrix_combination.f k a0_0 a0_1 l0_2 l1).bind fun bt465 => (if bt465.2 = true then (some (bt465.1, 0)) else (some (([] : List Int), 6)))) else (some (([] : List Int), t464)))) = some (r1, r2) := h
  clear h
  replace H := Option.bind_eq_some_iff.mp H
  obtain ⟨t464, A30, H⟩ := H
  replace H : (if t464 = 0 then ((impl_Matrix_combination.f k a0_0 a0_1 l0_2 l1).bind fun bt465 => (if bt465.2 = true then (some (bt465.1, 0)) else (some (([] : List Int), 6)))) else (some (([] : List Int), t464))) = some (r1, r2) := H
  have A3 := Aside0.mk A30
  clear A30
  by_cases c4 : t464 = 0
  · rw [if_pos c4] at H
    have c4b0 : (t464 == 0) = true := beq_iff_eq.mpr c4
    have c4b1 : (t464 != 0) = false := bne_eq_false_iff_eq.mpr c4
    clear c4
    replace H := Option.bind_eq_some_iff.mp H
    obtain ⟨⟨t465, t468⟩, A50, H⟩ := H
    replace H : (if t468 = true then (some (t465, 0)) else (some (([] : List Int), 6))) = some (r1, r2) := H
    have A5 := Aside0.mk A50
    clear A50
    by_cases c6 : t468 = true
    · subst c6
      have H1 : (some (t465, 0)) = some (r1, r2) := by rw [if_pos rfl] at H; exact H
      clear H
      have H := H1
      clear H1
      simp only [Option.some.injEq, Prod.mk.injEq] at H
      obtain ⟨rfl, rfl⟩ := H
      go_enter Try.func30, Try.ntmps30
      go_wp2_with (first | ((with_reducible refine gate_dst (N := 2) rfl ?_); refine box_event ?hg (N := 2) ?hd (cs := #[.int .i64 a0_0, .int .i64 a0_1, .slice A0_2 l0_2.length c0_2]) (t := 26) ?hr ?_; (case hd => rfl); (case hg => rfl); (case hr => first | (go_simp; done) | (go_simp; rfl)); intro gb463 hg w7 hbox hb; have n0_ := Aside0.mk (below_step (by repeat (first | (with_reducible first | exact HB.out | apply below_alloc | apply pw_below_drewN | apply below_drew1) | exact HB.out)) hb); have n1_ := Aside0.mk (hbox); have n2_ := Aside0.mk ((by rw [hg]; exact (below_size (by repeat (first | (with_reducible first | exact HB.out | apply below_alloc | apply pw_below_drewN | apply below_drew1) | exact HB.out))) : w.heap.size ≤ gb463)); have n3_ := Aside0.mk ((by rw [hg]; exact (below_size (by repeat (first | (with_reducible first | exact HB.out | apply below_alloc | apply pw_below_drewN | apply below_drew1) | exact HB.out))) : w.heap.size ≤ gb463)); clear HB; have HB := n0_; have BK463 := n1_; have GW463 := n2_; have GE463 := n3_; clear n0_ n1_ n2_ n3_; clear hb hbox hg; have hcz8_0 : w7.cell? ⟨gb463, 0, none⟩ = some (.int .i64 a0_0) := (blk_cell BK463.out 0).trans rfl; have hcz8_1 : w7.cell? ⟨gb463, 1, none⟩ = some (.int .i64 a0_1) := (blk_cell BK463.out 1).trans rfl; have hcz8_2 : w7.cell? ⟨gb463, 2, none⟩ = some (.slice A0_2 l0_2.length c0_2) := (blk_cell BK463.out 2).trans rfl; have hfz8_0 := blk_frozen BK463.out 0; have hfz8_1 := blk_frozen BK463.out 1; have hfz8_2 := blk_frozen BK463.out 2) | ((with_reducible refine gate_callee (f := 74) rfl ?_); refine goesL_ (some 13) rfl rfl Try.func74 (by kernel_rfl) rfl #[.agg #[.int .i64 a0_0, .int .i64 a0_1, .slice A0_2 l0_2.length c0_2], .slice A1 l1.length c1, .int .i64 a0_1] rfl (by (try simp only [List.map_toArray, List.map_cons, List.map_nil]); first | done | rfl | (simp only [List.length_drop, List.length_take]; rfl)) ?_; (with_reducible refine (impl_targetCode.calls k a0_0 a0_1 _ _ l0_2 _ _ l1 a0_1 t464 _ ?side1 ?side2 ?side3 ?side4 A3.out).mono ?_); (case side1 => repeat (first | exact (Kd.C_below HR0_2.out HB.out) | (with_reducible refine Kd.C_alloc ?_ _) | (with_reducible refine Kd.C_drewN ?_ _) | (with_reducible refine Kd.C_drew ?_))); (case side2 => exact HC0_2.out); (case side3 => repeat (first | exact (Kd.C_below HR1.out HB.out) | (with_reducible refine Kd.C_alloc ?_ _) | (with_reducible refine Kd.C_drewN ?_ _) | (with_reducible refine Kd.C_drew ?_))); (case side4 => exact HC1.out); rintro e w9 ⟨rfl, hb⟩; refine ⟨_, rfl, ?_⟩; have n0_ := Aside0.mk (blk_below (g := gb463) (o := .cells #[.int .i64 a0_0, .int .i64 a0_1, .slice A0_2 l0_2.length c0_2] 26 (0, 0)) (by (with_reducible repeat (first | refine blk_drewN ?_ _ | refine blk_drew ?_ | refine blk_alloc ?_ _)); exact BK463.out) hb); have n1_ := Aside0.mk (below_step (by repeat (first | (with_reducible first | exact HB.out | apply below_alloc | apply pw_below_drewN | apply below_drew1 | refine below_set ?_ GE463.out) | exact HB.out)) hb); clear BK463; clear HB; have BK463 := n0_; have HB := n1_; clear n0_ n1_; (try clear hb); (try clear hb2); (try clear hk); (try clear hi); have hcz10_0 : w9.cell? ⟨gb463, 0, none⟩ = some (.int .i64 a0_0) := (blk_cell BK463.out 0).trans rfl; have hcz10_1 : w9.cell? ⟨gb463, 1, none⟩ = some (.int .i64 a0_1) := (blk_cell BK463.out 1).trans rfl; have hcz10_2 : w9.cell? ⟨gb463, 2, none⟩ = some (.slice A0_2 l0_2.length c0_2) := (blk_cell BK463.out 2).trans rfl; have hfz10_0 := blk_frozen BK463.out 0; have hfz10_1 := blk_frozen BK463.out 1; have hfz10_2 := blk_frozen BK463.out 2) | ((with_reducible refine gate_callee (f := 75) rfl ?_); refine goesL_ (some 20) rfl rfl Try.func75 (by kernel_rfl) rfl #[.agg #[.int .i64 a0_0, .int .i64 a0_1, .slice A0_2 l0_2.length c0_2], .slice A1 l1.length c1] rfl (by (try simp only [List.map_toArray, List.map_cons, List.map_nil]); first | done | rfl | (simp only [List.length_drop, List.length_take]; rfl)) ?_; (with_reducible refine (impl_Matrix_combination.calls k a0_0 a0_1 _ _ l0_2 _ _ l1 t465 true _ ?side1 ?side2 ?side3 ?side4 A5.out).mono ?_); (case side1 => repeat (first | exact (Kd.C_below HR0_2.out HB.out) | (with_reducible refine Kd.C_alloc ?_ _) | (with_reducible refine Kd.C_drewN ?_ _) | (with_reducible refine Kd.C_drew ?_))); (case side2 => exact HC0_2.out); (case side3 => repeat (first | exact (Kd.C_below HR1.out HB.out) | (with_reducible refine Kd.C_alloc ?_ _) | (with_reducible refine Kd.C_drewN ?_ _) | (with_reducible refine Kd.C_drew ?_))); (case side4 => exact HC1.out); rintro e w11 ⟨v466, rfl, ho0, hb⟩; refine ⟨_, rfl, ?_⟩; have n0_ := Aside0.mk (Kd.R_lower ho0 (below_size (by repeat (first | (with_reducible first | exact HB.out | apply below_alloc | apply pw_below_drewN | apply below_drew1 | refine below_set ?_ GE463.out) | exact HB.out)))); have n1_ := Aside0.mk (blk_below (g := gb463) (o := .cells #[.int .i64 a0_0, .int .i64 a0_1, .slice A0_2 l0_2.length c0_2] 26 (0, 0)) (by (with_reducible repeat (first | refine blk_drewN ?_ _ | refine blk_drew ?_ | refine blk_alloc ?_ _)); exact BK463.out) hb); have n2_ := Aside0.mk (below_step (by repeat (first | (with_reducible first | exact HB.out | apply below_alloc | apply pw_below_drewN | apply below_drew1 | refine below_set ?_ GE463.out) | exact HB.out)) hb); clear BK463; clear HB; have HO467 := n0_; have BK463 := n1_; have HB := n2_; clear n0_ n1_ n2_; (try clear hb); (try clear hb2); (try clear hk); (try clear hi); (try clear ho0)))
      go_ret2
      exact ⟨_, by first | rfl | (simp [errW_none, errW_some] <;> rfl) | (simp [*, errW_none, errW_some] <;> rfl), by (with_reducible repeat (first | apply Kd.R_alloc | apply Kd.R_drewN | apply Kd.R_drew)); exact HO467.out, by repeat (first | (with_reducible first | exact HB.out | apply below_alloc | apply pw_below_drewN | apply below_drew1 | refine below_set ?_ GE463.out) | exact HB.out)⟩
    · replace c6 := Bool.eq_false_iff.mpr c6
      subst c6
      have H1 : (some (([] : List Int), 6)) = some (r1, r2) := by rw [if_neg (show ¬ (false = true) by decide)] at H; exact H
      clear H
      have H := H1
      clear H1
      simp only [Option.some.injEq, Prod.mk.injEq] at H
      obtain ⟨rfl, rfl⟩ := H
      go_enter Try.func30, Try.ntmps30
      go_wp2_with (first | ((with_reducible refine gate_dst (N := 2) rfl ?_); refine box_event ?hg (N := 2) ?hd (cs := #[.int .i64 a0_0, .int .i64 a0_1, .slice A0_2 l0_2.length c0_2]) (t := 26) ?hr ?_; (case hd => rfl); (case hg => rfl); (case hr => first | (go_simp; done) | (go_simp; rfl)); intro gb463 hg w12 hbox hb; have n0_ := Aside0.mk (below_step (by repeat (first | (with_reducible first | exact HB.out | apply below_alloc | apply pw_below_drewN | apply below_drew1) | exact HB.out)) hb); have n1_ := Aside0.mk (hbox); have n2_ := Aside0.mk ((by rw [hg]; exact (below_size (by repeat (first | (with_reducible first | exact HB.out | apply below_alloc | apply pw_below_drewN | apply below_drew1) | exact HB.out))) : w.heap.size ≤ gb463)); have n3_ := Aside0.mk ((by rw [hg]; exact (below_size (by repeat (first | (with_reducible first | exact HB.out | apply below_alloc | apply pw_below_drewN | apply below_drew1) | exact HB.out))) : w.heap.size ≤ gb463)); clear HB; have HB := n0_; have BK463 := n1_; have GW463 := n2_; have GE463 := n3_; clear n0_ n1_ n2_ n3_; clear hb hbox hg; have hcz13_0 : w12.cell? ⟨gb463, 0, none⟩ = some (.int .i64 a0_0) := (blk_cell BK463.out 0).trans rfl; have hcz13_1 : w12.cell? ⟨gb463, 1, none⟩ = some (.int .i64 a0_1) := (blk_cell BK463.out 1).trans rfl; have hcz13_2 : w12.cell? ⟨gb463, 2, none⟩ = some (.slice A0_2 l0_2.length c0_2) := (blk_cell BK463.out 2).trans rfl; have hfz13_0 := blk_frozen BK463.out 0; have hfz13_1 := blk_frozen BK463.out 1; have hfz13_2 := blk_frozen BK463.out 2) | ((with_reducible refine gate_callee (f := 74) rfl ?_); refine goesL_ (some 13) rfl rfl Try.func74 (by kernel_rfl) rfl #[.agg #[.int .i64 a0_0, .int .i64 a0_1, .slice A0_2 l0_2.length c0_2], .slice A1 l1.length c1, .int .i64 a0_1] rfl (by (try simp only [List.map_toArray, List.map_cons, List.map_nil]); first | done | rfl | (simp only [List.length_drop, List.length_take]; rfl)) ?_; (with_reducible refine (impl_targetCode.calls k a0_0 a0_1 _ _ l0_2 _ _ l1 a0_1 t464 _ ?side1 ?side2 ?side3 ?side4 A3.out).mono ?_); (case side1 => repeat (first | exact (Kd.C_below HR0_2.out HB.out) | (with_reducible refine Kd.C_alloc ?_ _) | (with_reducible refine Kd.C_drewN ?_ _) | (with_reducible refine Kd.C_drew ?_))); (case side2 => exact HC0_2.out); (case side3 => repeat (first | exact (Kd.C_below HR1.out HB.out) | (with_reducible refine Kd.C_alloc ?_ _) | (with_reducible refine Kd.C_drewN ?_ _) | (with_reducible refine Kd.C_drew ?_))); (case side4 => exact HC1.out); rintro e w14 ⟨rfl, hb⟩; refine ⟨_, rfl, ?_⟩; have n0_ := Aside0.mk (blk_below (g := gb463) (o := .cells #[.int .i64 a0_0, .int .i64 a0_1, .slice A0_2 l0_2.length c0_2] 26 (0, 0)) (by (with_reducible repeat (first | refine blk_drewN ?_ _ | refine blk_drew ?_ | refine blk_alloc ?_ _)); exact BK463.out) hb); have n1_ := Aside0.mk (below_step (by repeat (first | (with_reducible first | exact HB.out | apply below_alloc | apply pw_below_drewN | apply below_drew1 | refine below_set ?_ GE463.out) | exact HB.out)) hb); clear BK463; clear HB; have BK463 := n0_; have HB := n1_; clear n0_ n1_; (try clear hb); (try clear hb2); (try clear hk); (try clear hi); have hcz15_0 : w14.cell? ⟨gb463, 0, none⟩ = some (.int .i64 a0_0) := (blk_cell BK463.out 0).trans rfl; have hcz15_1 : w14.cell? ⟨gb463, 1, none⟩ = some (.int .i64 a0_1) := (blk_cell BK463.out 1).trans rfl; have hcz15_2 : w14.cell? ⟨gb463, 2, none⟩ = some (.slice A0_2 l0_2.length c0_2) := (blk_cell BK463.out 2).trans rfl; have hfz15_0 := blk_frozen BK463.out 0; have hfz15_1 := blk_frozen BK463.out 1; have hfz15_2 := blk_frozen BK463.out 2) | ((with_reducible refine gate_callee (f := 75) rfl ?_); refine goesL_ (some 20) rfl rfl Try.func75 (by kernel_rfl) rfl #[.agg #[.int .i64 a0_0, .int .i64 a0_1, .slice A0_2 l0_2.length c0_2], .slice A1 l1.length c1] rfl (by (try simp only [List.map_toArray, List.map_cons, List.map_nil]); first | done | rfl | (simp only [List.length_drop, List.length_take]; rfl)) ?_; (with_reducible refine (impl_Matrix_combination.calls k a0_0 a0_1 _ _ l0_2 _ _ l1 t465 false _ ?side1 ?side2 ?side3 ?side4 A5.out).mono ?_); (case side1 => repeat (first | exact (Kd.C_below HR0_2.out HB.out) | (with_reducible refine Kd.C_alloc ?_ _) | (with_reducible refine Kd.C_drewN ?_ _) | (with_reducible refine Kd.C_drew ?_))); (case side2 => exact HC0_2.out); (case side3 => repeat (first | exact (Kd.C_below HR1.out HB.out) | (with_reducible refine Kd.C_alloc ?_ _) | (with_reducible refine Kd.C_drewN ?_ _) | (with_reducible refine Kd.C_drew ?_))); (case side4 => exact HC1.out); rintro e w16 ⟨v466, rfl, ho0, hb⟩; refine ⟨_, rfl, ?_⟩; have n0_ := Aside0.mk (Kd.R_lower ho0 (below_size (by repeat (first | (with_reducible first | exact HB.out | apply below_alloc | apply pw_below_drewN | apply below_drew1 | refine below_set ?_ GE463.out) | exact HB.out)))); have n1_ := Aside0.mk (blk_below (g := gb463) (o := .cells #[.int .i64 a0_0, .int .i64 a0_1, .slice A0_2 l0_2.length c0_2] 26 (0, 0)) (by (with_reducible repeat (first | refine blk_drewN ?_ _ | refine blk_drew ?_ | refine blk_alloc ?_ _)); exact BK463.out) hb); have n2_ := Aside0.mk (below_step (by repeat (first | (with_reducible first | exact HB.out | apply below_alloc | apply pw_below_drewN | apply below_drew1 | refine below_set ?_ GE463.out) | exact HB.out)) hb); clear BK463; clear HB; have HO467 := n0_; have BK463 := n1_; have HB := n2_; clear n0_ n1_ n2_; (try clear hb); (try clear hb2); (try clear hk); (try clear hi); (try clear ho0)))
      go_ret2
      exact ⟨_, by first | rfl | (simp [errW_none, errW_some] <;> rfl) | (simp [*, errW_none, errW_some] <;> rfl), by first | exact Kd.R_nil _ _ _ _ _ | exact Kd.N_nil _ _ _ _ _ | exact Kd.V_nil _ _ _ _ _ | exact Kd.Q_nil _ _ _ _ _ | exact Kd.S_nil _ _ _ _ _, by repeat (first | (with_reducible first | exact HB.out | apply below_alloc | apply pw_below_drewN | apply below_drew1 | refine below_set ?_ GE463.out) | exact HB.out)⟩
  · rw [if_neg c4] at H
    have c4b0 : (t464 == 0) = false := beq_eq_false_iff_ne.mpr c4
    have c4b1 : (t464 != 0) = true := bne_iff_ne.mpr c4
    simp only [Option.some.injEq, Prod.mk.injEq] at H
    obtain ⟨rfl, rfl⟩ := H
    go_enter Try.func30, Try.ntmps30
    go_wp2_with (first | ((with_reducible refine gate_dst (N := 2) rfl ?_); refine box_event ?hg (N := 2) ?hd (cs := #[.int .i64 a0_0, .int .i64 a0_1, .slice A0_2 l0_2.length c0_2]) (t := 26) ?hr ?_; (case hd => rfl); (case hg => rfl); (case hr => first | (go_simp; done) | (go_simp; rfl)); intro gb463 hg w17 hbox hb; have n0_ := Aside0.mk (below_step (by repeat (first | (with_reducible first | exact HB.out | apply below_alloc | apply pw_below_drewN | apply below_drew1) | exact HB.out)) hb); have n1_ := Aside0.mk (hbox); have n2_ := Aside0.mk ((by rw [hg]; exact (below_size (by repeat (first | (with_reducible first | exact HB.out | apply below_alloc | apply pw_below_drewN | apply below_drew1) | exact HB.out))) : w.heap.size ≤ gb463)); have n3_ := Aside0.mk ((by rw [hg]; exact (below_size (by repeat (first | (with_reducible first | exact HB.out | apply below_alloc | apply pw_below_drewN | apply below_drew1) | exact HB.out))) : w.heap.size ≤ gb463)); clear HB; have HB := n0_; have BK463 := n1_; have GW463 := n2_; have GE463 := n3_; clear n0_ n1_ n2_ n3_; clear hb hbox hg; have hcz18_0 : w17.cell? ⟨gb463, 0, none⟩ = some (.int .i64 a0_0) := (blk_cell BK463.out 0).trans rfl; have hcz18_1 : w17.cell? ⟨gb463, 1, none⟩ = some (.int .i64 a0_1) := (blk_cell BK463.out 1).trans rfl; have hcz18_2 : w17.cell? ⟨gb463, 2, none⟩ = some (.slice A0_2 l0_2.length c0_2) := (blk_cell BK463.out 2).trans rfl; have hfz18_0 := blk_frozen BK463.out 0; have hfz18_1 := blk_frozen BK463.out 1; have hfz18_2 := blk_frozen BK463.out 2) | ((with_reducible refine gate_callee (f := 74) rfl ?_); refine goesL_ (some 13) rfl rfl Try.func74 (by kernel_rfl) rfl #[.agg #[.int .i64 a0_0, .int .i64 a0_1, .slice A0_2 l0_2.length c0_2], .slice A1 l1.length c1, .int .i64 a0_1] rfl (by (try simp only [List.map_toArray, List.map_cons, List.map_nil]); first | done | rfl | (simp only [List.length_drop, List.length_take]; rfl)) ?_; (with_reducible refine (impl_targetCode.calls k a0_0 a0_1 _ _ l0_2 _ _ l1 a0_1 t464 _ ?side1 ?side2 ?side3 ?side4 A3.out).mono ?_); (case side1 => repeat (first | exact (Kd.C_below HR0_2.out HB.out) | (with_reducible refine Kd.C_alloc ?_ _) | (with_reducible refine Kd.C_drewN ?_ _) | (with_reducible refine Kd.C_drew ?_))); (case side2 => exact HC0_2.out); (case side3 => repeat (first | exact (Kd.C_below HR1.out HB.out) | (with_reducible refine Kd.C_alloc ?_ _) | (with_reducible refine Kd.C_drewN ?_ _) | (with_reducible refine Kd.C_drew ?_))); (case side4 => exact HC1.out); rintro e w19 ⟨rfl, hb⟩; refine ⟨_, rfl, ?_⟩; have n0_ := Aside0.mk (blk_below (g := gb463) (o := .cells #[.int .i64 a0_0, .int .i64 a0_1, .slice A0_2 l0_2.length c0_2] 26 (0, 0)) (by (with_reducible repeat (first | refine blk_drewN ?_ _ | refine blk_drew ?_ | refine blk_alloc ?_ _)); exact BK463.out) hb); have n1_ := Aside0.mk (below_step (by repeat (first | (with_reducible first | exact HB.out | apply below_alloc | apply pw_below_drewN | apply below_drew1 | refine below_set ?_ GE463.out) | exact HB.out)) hb); clear BK463; clear HB; have BK463 := n0_; have HB := n1_; clear n0_ n1_; (try clear hb); (try clear hb2); (try clear hk); (try clear hi)))
    go_ret2
    exact ⟨_, by first | rfl | (simp [errW_none, errW_some] <;> rfl) | (simp [*, errW_none, errW_some] <;> rfl), by first | exact Kd.R_nil _ _ _ _ _ | exact Kd.N_nil _ _ _ _ _ | exact Kd.V_nil _ _ _ _ _ | exact Kd.Q_nil _ _ _ _ _ | exact Kd.S_nil _ _ _ _ _, by repeat (first | (with_reducible first | exact HB.out | apply below_alloc | apply pw_below_drewN | apply below_drew1 | refine below_set ?_ GE463.out) | exact HB.out)⟩

end Go.Proofs.Ytjpbemomocccaaa.P

namespace Go.Proofs.Ytjpbemomocccaaa.P
open Go.RowKit Go.Proofs.YtjpbemomocccaaaW.PrintWords Go.Proofs.YtjpbemomocccaaaW.PrintLast Go.Proofs.YtjpbemomocccaaaW.PrintMore
attribute [local go_sem] max2_int min2_int max_two min_two max_three min_three max_four min_four
set_option linter.unusedVariables false
set_option linter.unusedSimpArgs false

/-! ### laws_heldInt64S: function 32 -/
def laws_heldInt64S.l0 : Nat → List Int → Int → Int → Option (Int)
  | 0, _, _, _ => none
  | k + 1, x0, x1, x5 => if x5 < (x0.length : Int) then (if 0 ≤ x5 then (if (rd x0 x5) = x1 then (laws_heldInt64S.l0 k x0 (wrap64 (x1 + 1)) (wrap64 (x5 + 1))) else (some (-1))) else (none)) else (some x1)
def laws_heldInt64S.f (k : Nat) (l0 : List Int) (a1 : Int) : Option (Int) := laws_heldInt64S.l0 k l0 a1 0
set_option maxHeartbeats 8000000 in
set_option maxRecDepth 100000 in
theorem laws_heldInt64S.calls (k : Nat) (A0 : Option Addr) (c0 : Nat) (l0 : List Int) (a1 : Int) (r : Int) (w : World) (hr0 : Kd.C (Kd.int .i64) w A0 l0.length l0) (hc0 : l0.length ≤ c0) (h : laws_heldInt64S.f k l0 a1 = some r) :
    Calls Try.prog 32 #[.slice A0 l0.length c0, .int .i64 a1] w fun e w' => e = .returned (.int .i64 r) ∧ Drawn0 w w' := by
  have HR0 := Aside0.mk hr0
  have HC0 := Aside0.mk hc0
  clear hr0 hc0
  have H : (laws_heldInt64S.l0 k l0 a1 0) = some r := h
  clear h
  have H' := Aside0.mk H
  clear H
  go_enter Try.func32, Try.ntmps32
  go_wp2
  go_loopg [1, 5] k (fun kq v1 v5 w' => ∃ (x1_1 : Int) (x5_1 : Int), v1 = .int .i64 x1_1 ∧ v5 = .int .i64 x5_1 ∧ Aside0 (laws_heldInt64S.l0 kq l0 x1_1 x5_1 = some r) ∧ Aside0 (kq ≤ k) ∧ Drawn0 w w')
  case atStart => exact ⟨(a1), (0), (by first | rfl | (simp; done) | (simp [*]; done)), (by first | rfl | (simp; done) | (simp [*]; done)), H', ⟨Nat.le_refl _⟩, by repeat (first | exact Drawn0.refl _ | apply Drawn0.step)⟩
  case round =>
    clear H'
    try clear p2
    obtain ⟨x1_1, x5_1, rfl, rfl, HA, HK1, ⟨m1, rfl⟩⟩ := hrel
    cases gk with
    | zero => exact absurd HA.out (by simp [laws_heldInt64S.l0])
    | succ k1 =>
      have H := HA.out
      clear HA
      simp only [laws_heldInt64S.l0] at H
      by_cases c3 : x5_1 < (l0.length : Int)
      · rw [if_pos c3] at H
        have c3b0 : decide (x5_1 < (l0.length : Int)) = true := decide_eq_true c3
        clear c3
        by_cases c4 : 0 ≤ x5_1
        · rw [if_pos c4] at H
          have c4b0 : decide (0 ≤ x5_1) = true := decide_eq_true c4
          clear c4
          by_cases c5 : (rd l0 x5_1) = x1_1
          · rw [if_pos c5] at H
            have c5b0 : ((rd l0 x5_1) == x1_1) = true := beq_iff_eq.mpr c5
            have c5b1 : ((rd l0 x5_1) != x1_1) = false := bne_eq_false_iff_eq.mpr c5
            clear c5
            have H' := Aside0.mk H
            clear H
            have p204 : 0 ≤ (x5_1 : Int) := of_decide_eq_true (by first | (with_reducible assumption) | assumption)
            have q204 : x5_1 < (l0.length : Int) := of_decide_eq_true (by first | (with_reducible assumption) | assumption)
            obtain ⟨ad204, e204, hx204_0⟩ := Kd.at_int HR0.out x5_1 p204 q204
            cases e204
            replace p204 := eq_true p204
            replace q204 := eq_true q204
            go_wp2
            go_roundg k1
            case measure => have := HK1.out; omega
            case rel => exact ⟨(wrap64 (x1_1 + 1)), (wrap64 (x5_1 + 1)), (by first | rfl | (simp; done) | (simp [*]; done)), (by first | rfl | (simp; done) | (simp [*]; done)), H', ⟨by have := HK1.out; omega⟩, by repeat (first | exact Drawn0.refl _ | apply Drawn0.step)⟩
          · rw [if_neg c5] at H
            have c5b0 : ((rd l0 x5_1) == x1_1) = false := beq_eq_false_iff_ne.mpr c5
            have c5b1 : ((rd l0 x5_1) != x1_1) = true := bne_iff_ne.mpr c5
            obtain rfl := Option.some.inj H
            have p204 : 0 ≤ (x5_1 : Int) := of_decide_eq_true (by first | (with_reducible assumption) | assumption)
            have q204 : x5_1 < (l0.length : Int) := of_decide_eq_true (by first | (with_reducible assumption) | assumption)
            obtain ⟨ad204, e204, hx204_0⟩ := Kd.at_int HR0.out x5_1 p204 q204
            cases e204
            replace p204 := eq_true p204
            replace q204 := eq_true q204
            go_wp2
            go_ret
            exact ⟨by first | rfl | (simp; done) | (simp [*]; done), by repeat (first | exact Drawn0.refl _ | apply Drawn0.step)⟩
        · rw [if_neg c4] at H
          exact absurd H (by simp)
      · rw [if_neg c3] at H
        have c3b0 : decide (x5_1 < (l0.length : Int)) = false := decide_eq_false c3
        clear c3
        obtain rfl := Option.some.inj H
        go_wp2
        go_ret
        exact ⟨by first | rfl | (simp; done) | (simp [*]; done), by repeat (first | exact Drawn0.refl _ | apply Drawn0.step)⟩

end Go.Proofs.Ytjpbemomocccaaa.P
