/- For every text the program's ReadGate and the reference's read alike, and the result is memory of its own. This text: part 2 of what it rests on: functions of the translation as plain Lean functions, and that the machine's calls come to their answers. -/
import Derived.Test.YtijmdlhcidjpmaaDoorCFnExactReadGatea
import Derived.DataShut
import Derived.Lib.SmallJoins
import Derived.Shelf.Abstract
import Derived.Shelf.Strconv.Itoa3
import Derived.Shelf.Strconv.Itoa4
import Derived.Shelf.Strconv.ParseIntPublic10
import Derived.Shelf.Strings.Cut
import Derived.Shelf.Strings.OnBuilder
import Derived.Shelf.Strings.Split
namespace Go.Proofs.YtijmdlhcidjpmaaDoor.P
open Go.RowKit Go.Proofs.YtijmdlhcidjpmaaDoorW.PrintWords Go.Proofs.YtijmdlhcidjpmaaDoorW.PrintLast Go.Proofs.YtijmdlhcidjpmaaDoorW.PrintMore
attribute [local go_sem] max2_int min2_int max_two min_two max_three min_three max_four min_four
set_option linter.unusedVariables false
set_option linter.unusedSimpArgs false
def spec_ReadGate.e (k : Nat) (a0 : Int) (a1 : ByteArray) (b0 b1 : Int) (b2 : List S46) (at_ : Int) (bd : Bool) : Option (Int × Int × List S46 × Int) := (if bd = true then some (0, 0, [], 5) else if at_ = (a1.size : Int) then ((spec_l02Ok.f k a0 ⟨b0, b1, b2⟩).bind fun u => if u = true then some (b0, b1, b2, 0) else some (0, 0, [], 5)) else some (0, 0, [], 5))
def spec_ReadGate.f (k : Nat) (a0 : Int) (a1 : ByteArray) : Option (Int × Int × List S46 × Int) := (spec_l00In.f a0 1 7).bind fun t => if t = true then (if (a1.size : Int) > 4000 then some (0, 0, [], 2) else (spec_l02Reader_gate.f k a1 0 0 false).bind fun p => spec_ReadGate.e k a0 a1 p.1 p.2.1 p.2.2.1 p.2.2.2.2.1 p.2.2.2.2.2.2) else some (0, 0, [], 2)
set_option maxHeartbeats 8000000 in
set_option maxRecDepth 100000 in
theorem spec_ReadGate.calls (k : Nat) (a0 : Int) (a1 : ByteArray) (r1 : Int) (r2 : Int) (r3 : List S46) (r4 : Int) (w : World) (h : spec_ReadGate.f k a0 a1 = some (r1, r2, r3, r4)) :
  Calls Tryd.prog 24 #[.int .i64 a0, .string a1] w fun e w' => ∃ v2_ : Value, e = .returned (.tuple #[.agg #[.int .i64 r1, .int .i64 r2, v2_], .int .i64 r4]) ∧ Kd.S kG 46 w' w.heap.size (fun _ => True) v2_ r3 ∧ Below w.heap.size w w' := by
 have hu29 := Tryd.underlying46
 have hu85 := Tryd.underlying85
 have HB := Aside0.mk (Below.refl w.heap.size w)
 unfold spec_ReadGate.f at h
 replace h := Option.bind_eq_some_iff.mp h
 obtain ⟨t, At, H⟩ := h
 have A3 := Aside0.mk At
 clear At
 by_cases c3 : t = true
 ·subst c3
  rw [if_pos rfl] at H
  by_cases c4 : (a1.size : Int) > 4000
  ·rw [if_pos c4] at H
   have c4b : decide ((a1.size : Int) > 4000) = true := decide_eq_true c4
   have c4c : decide (4000 < (a1.size : Int)) = true := decide_eq_true c4
   replace c4 := Aside0.mk c4
   simp only [Option.some.injEq, Prod.mk.injEq] at H
   obtain ⟨rfl, rfl, rfl, rfl⟩ := H
   go_enter Tryd.func24, Tryd.ntmps24
   go_wp2_with (first | ((with_reducible refine gate_dst (N := 4) rfl ?_); refine box_event ?hg (N := 4) ?hd (cs := #[.int .i64 0, .int .i64 0, .slice none 0 0]) (t := 46) ?hr ?_; (case hd => rfl); (case hg => rfl); (case hr => first | (go_simp; done) | (go_simp; rfl)); intro g4 hg w1 hbox hb; have GW_g4 := Aside0.mk ((by rw [hg]; exact below_size (by repeat (first | (with_reducible first | exact HB.out | apply below_alloc | apply pw_below_drewN | apply below_drew1) | exact HB.out))) : w.heap.size ≤ g4); clear hg; have BK_g4 := Aside0.mk hbox; clear hbox; have nb_ := Aside0.mk (below_step (by repeat (first | (with_reducible first | exact HB.out | apply below_alloc | apply pw_below_drewN | apply below_drew1) | exact HB.out)) hb); clear HB hb; have HB := nb_; clear nb_; have hz_g40 : w1.cell? ⟨g4, 0, none⟩ = some (.int .i64 0) := (blk_cell BK_g4.out 0).trans rfl; have hz_g4f0 := blk_frozen BK_g4.out 0; have hz_g41 : w1.cell? ⟨g4, 1, none⟩ = some (.int .i64 0) := (blk_cell BK_g4.out 1).trans rfl; have hz_g4f1 := blk_frozen BK_g4.out 1; have hz_g42 : w1.cell? ⟨g4, 2, none⟩ = some (.slice none 0 0) := (blk_cell BK_g4.out 2).trans rfl; have hz_g4f2 := blk_frozen BK_g4.out 2) | (go_at_call 55; (with_reducible refine (spec_l00In.calls a0 1 7 true _ A3.out).mono ?_); rintro e w5 ⟨rfl, ⟨nd5, rfl⟩⟩))
   refine bodyPost_ret (results_ct rfl _ _ g4 46 #[.int .i64 0, .int .i64 0, .slice none 0 0] (0, 0) _ rfl (by (with_reducible repeat (first | refine blk_drewN ?_ _ | refine blk_drew ?_ | refine blk_alloc ?_ _)); refine blk_put (cs := #[.int .i64 0, .int .i64 0, .slice none 0 0]) ?_ 2 _ rfl; (with_reducible repeat (first | refine blk_drewN ?_ _ | refine blk_drew ?_ | refine blk_alloc ?_ _)); refine blk_put (cs := #[.int .i64 0, .int .i64 0, .slice none 0 0]) ?_ 1 _ rfl; (with_reducible repeat (first | refine blk_drewN ?_ _ | refine blk_drew ?_ | refine blk_alloc ?_ _)); refine blk_put (cs := #[.int .i64 0, .int .i64 0, .slice none 0 0]) ?_ 0 _ rfl; (with_reducible repeat (first | refine blk_drewN ?_ _ | refine blk_drew ?_ | refine blk_alloc ?_ _)); exact BK_g4.out) Tryd.underlying46 rfl (by kernel_rfl)) rfl ?_
   exact ⟨_, rfl, Kd.S_nil _ _ _ _ _, (by repeat (first | (with_reducible first | exact HB.out | apply below_alloc | apply pw_below_drewN | apply below_drew1 | refine below_set ?_ GW_g4.out) | exact HB.out))⟩
  ·rw [if_neg c4] at H
   have c4b : decide ((a1.size : Int) > 4000) = false := decide_eq_false c4
   have c4c : decide (4000 < (a1.size : Int)) = false := decide_eq_false c4
   replace c4 := Aside0.mk c4
   replace H := Option.bind_eq_some_iff.mp H
   obtain ⟨⟨b0, b1, b2, tx, at_, dp, bd⟩, At, H⟩ := H
   have A6 := Aside0.mk At
   clear At
   replace H : (if bd = true then some (0, 0, [], 5) else if at_ = (a1.size : Int) then ((spec_l02Ok.f k a0 ⟨b0, b1, b2⟩).bind fun u => if u = true then some (b0, b1, b2, 0) else some (0, 0, [], 5)) else some (0, 0, [], 5)) = some (r1, r2, r3, r4) := H
   by_cases c6 : bd = true
   ·subst c6
    rw [if_pos rfl] at H
    simp only [Option.some.injEq, Prod.mk.injEq] at H
    obtain ⟨rfl, rfl, rfl, rfl⟩ := H
    go_enter Tryd.func24, Tryd.ntmps24
    go_wp2_with (first | ((with_reducible refine gate_dst (N := 4) rfl ?_); refine box_event ?hg (N := 4) ?hd (cs := #[.int .i64 0, .int .i64 0, .slice none 0 0]) (t := 46) ?hr ?_; (case hd => rfl); (case hg => rfl); (case hr => first | (go_simp; done) | (go_simp; rfl)); intro g4 hg w1 hbox hb; have GW_g4 := Aside0.mk ((by rw [hg]; exact below_size (by repeat (first | (with_reducible first | exact HB.out | apply below_alloc | apply pw_below_drewN | apply below_drew1) | exact HB.out))) : w.heap.size ≤ g4); clear hg; have BK_g4 := Aside0.mk hbox; clear hbox; have nb_ := Aside0.mk (below_step (by repeat (first | (with_reducible first | exact HB.out | apply below_alloc | apply pw_below_drewN | apply below_drew1) | exact HB.out)) hb); clear HB hb; have HB := nb_; clear nb_; have hz_g40 : w1.cell? ⟨g4, 0, none⟩ = some (.int .i64 0) := (blk_cell BK_g4.out 0).trans rfl; have hz_g4f0 := blk_frozen BK_g4.out 0; have hz_g41 : w1.cell? ⟨g4, 1, none⟩ = some (.int .i64 0) := (blk_cell BK_g4.out 1).trans rfl; have hz_g4f1 := blk_frozen BK_g4.out 1; have hz_g42 : w1.cell? ⟨g4, 2, none⟩ = some (.slice none 0 0) := (blk_cell BK_g4.out 2).trans rfl; have hz_g4f2 := blk_frozen BK_g4.out 2) | (go_at_call 55; (with_reducible refine (spec_l00In.calls a0 1 7 true _ A3.out).mono ?_); rintro e w5 ⟨rfl, ⟨nd5, rfl⟩⟩) | ((with_reducible refine gate_dst (N := 19) rfl ?_); refine box_event ?hg (N := 19) ?hd (cs := #[.string a1, .int .i64 0, .int .i64 0, .bool false]) (t := 85) ?hr ?_; (case hd => rfl); (case hg => rfl); (case hr => first | (go_simp; done) | (go_simp; rfl)); intro gR hg w2 hbox hb; have GW_gR := Aside0.mk ((by rw [hg]; exact below_size (by repeat (first | (with_reducible first | exact HB.out | apply below_alloc | apply pw_below_drewN | apply below_drew1) | exact HB.out))) : w.heap.size ≤ gR); have HL_g4_gR := Aside0.mk (show g4 < gR from by rw [hg]; exact blk_lt (o := .cells #[.int .i64 0, .int .i64 0, .slice none 0 0] 46 (0, 0)) (by (with_reducible repeat (first | refine blk_drewN ?_ _ | refine blk_drew ?_ | refine blk_alloc ?_ _)); exact BK_g4.out)); clear hg; have BK_gR := Aside0.mk hbox; clear hbox; have nb_ := Aside0.mk (below_step (by repeat (first | (with_reducible first | exact HB.out | apply below_alloc | apply pw_below_drewN | apply below_drew1) | exact HB.out)) hb); have n0_ := Aside0.mk (blk_below (g := g4) (o := .cells #[.int .i64 0, .int .i64 0, .slice none 0 0] 46 (0, 0)) (by (with_reducible repeat (first | refine blk_drewN ?_ _ | refine blk_drew ?_ | refine blk_alloc ?_ _)); exact BK_g4.out) hb); clear HB hb; have HB := nb_; clear nb_; clear BK_g4 hz_g40 hz_g4f0 hz_g41 hz_g4f1 hz_g42 hz_g4f2; have BK_g4 := n0_; clear n0_; have hz_g40 : w2.cell? ⟨g4, 0, none⟩ = some (.int .i64 0) := (blk_cell BK_g4.out 0).trans rfl; have hz_g4f0 := blk_frozen BK_g4.out 0; have hz_g41 : w2.cell? ⟨g4, 1, none⟩ = some (.int .i64 0) := (blk_cell BK_g4.out 1).trans rfl; have hz_g4f1 := blk_frozen BK_g4.out 1; have hz_g42 : w2.cell? ⟨g4, 2, none⟩ = some (.slice none 0 0) := (blk_cell BK_g4.out 2).trans rfl; have hz_g4f2 := blk_frozen BK_g4.out 2; have hz_gR0 : w2.cell? ⟨gR, 0, none⟩ = some (.string a1) := (blk_cell BK_gR.out 0).trans rfl; have hz_gRf0 := blk_frozen BK_gR.out 0; have hz_gR1 : w2.cell? ⟨gR, 1, none⟩ = some (.int .i64 0) := (blk_cell BK_gR.out 1).trans rfl; have hz_gRf1 := blk_frozen BK_gR.out 1; have hz_gR2 : w2.cell? ⟨gR, 2, none⟩ = some (.int .i64 0) := (blk_cell BK_gR.out 2).trans rfl; have hz_gRf2 := blk_frozen BK_gR.out 2; have hz_gR3 : w2.cell? ⟨gR, 3, none⟩ = some (.bool false) := (blk_cell BK_gR.out 3).trans rfl; have hz_gRf3 := blk_frozen BK_gR.out 3) | (go_at_call 56; (with_reducible refine (spec_l02Reader_gate.calls k gR a1 0 0 false b0 b1 b2 tx at_ dp true w _ ?sI ?sB A6.out).mono ?_); (case sI => exact ⟨(by (with_reducible repeat (first | refine blk_drewN ?_ _ | refine blk_drew ?_ | refine blk_alloc ?_ _)); exact BK_gR.out), GW_gR.out⟩); (case sB => exact (by repeat (first | (with_reducible first | exact HB.out | apply below_alloc | apply pw_below_drewN | apply below_drew1) | exact HB.out))); rintro e w6 ⟨v, rfl, hS, hi, hb, hk⟩; have HSv := Aside0.mk (Kd.S_lower (base' := w.heap.size) (Kd.S_mono (Kd.S_bound hS) (ok' := fun k_ => gR < k_) (fun k_ hk_ => Nat.lt_of_lt_of_le (blk_lt (o := .cells #[.string a1, .int .i64 0, .int .i64 0, .bool false] 85 (0, 0)) (by (with_reducible repeat (first | refine blk_drewN ?_ _ | refine blk_drew ?_ | refine blk_alloc ?_ _)); exact BK_gR.out)) (by exact hk_.2.1))) (below_size (by repeat (first | (with_reducible first | exact HB.out | apply below_alloc | apply pw_below_drewN | apply below_drew1) | exact HB.out)))); obtain ⟨Av, cv, ev_⟩ := Kd.S_slice HSv.out; subst ev_; have n0_ := Aside0.mk (KeepBut.blk hk (g' := g4) (o := .cells #[.int .i64 0, .int .i64 0, .slice none 0 0] 46 (0, 0)) (by (with_reducible repeat (first | refine blk_drewN ?_ _ | refine blk_drew ?_ | refine blk_alloc ?_ _)); exact BK_g4.out) (Nat.ne_of_lt HL_g4_gR.out) (by simp)); have n1_ := Aside0.mk hi.1; clear BK_g4 BK_gR HB hz_g40 hz_g4f0 hz_g41 hz_g4f1 hz_g42 hz_g4f2 hz_gR0 hz_gRf0 hz_gR1 hz_gRf1 hz_gR2 hz_gRf2 hz_gR3 hz_gRf3; have BK_g4 := n0_; have BK_gR := n1_; have HB := Aside0.mk hb; clear n0_ n1_ hS hi hb hk; have hz_g40 : w6.cell? ⟨g4, 0, none⟩ = some (.int .i64 0) := (blk_cell BK_g4.out 0).trans rfl; have hz_g4f0 := blk_frozen BK_g4.out 0; have hz_g41 : w6.cell? ⟨g4, 1, none⟩ = some (.int .i64 0) := (blk_cell BK_g4.out 1).trans rfl; have hz_g4f1 := blk_frozen BK_g4.out 1; have hz_g42 : w6.cell? ⟨g4, 2, none⟩ = some (.slice none 0 0) := (blk_cell BK_g4.out 2).trans rfl; have hz_g4f2 := blk_frozen BK_g4.out 2; have hz_gR0 : w6.cell? ⟨gR, 0, none⟩ = some (.string tx) := (blk_cell BK_gR.out 0).trans rfl; have hz_gRf0 := blk_frozen BK_gR.out 0; have hz_gR1 : w6.cell? ⟨gR, 1, none⟩ = some (.int .i64 at_) := (blk_cell BK_gR.out 1).trans rfl; have hz_gRf1 := blk_frozen BK_gR.out 1; have hz_gR2 : w6.cell? ⟨gR, 2, none⟩ = some (.int .i64 dp) := (blk_cell BK_gR.out 2).trans rfl; have hz_gRf2 := blk_frozen BK_gR.out 2; have hz_gR3 : w6.cell? ⟨gR, 3, none⟩ = some (.bool true) := (blk_cell BK_gR.out 3).trans rfl; have hz_gRf3 := blk_frozen BK_gR.out 3) | ((with_reducible refine gate_dst (N := 7) rfl ?_); refine box_event ?hg (N := 7) ?hd (cs := #[.int .i64 0, .int .i64 0, .slice none 0 0]) (t := 46) ?hr ?_; (case hd => rfl); (case hg => rfl); (case hr => first | (go_simp; done) | (go_simp; rfl)); intro g7 hg w7 hbox hb; have GW_g7 := Aside0.mk ((by rw [hg]; exact below_size (by repeat (first | (with_reducible first | exact HB.out | apply below_alloc | apply pw_below_drewN | apply below_drew1) | exact HB.out))) : w.heap.size ≤ g7); have HL_g4_g7 := Aside0.mk (show g4 < g7 from by rw [hg]; exact blk_lt (o := .cells #[.int .i64 0, .int .i64 0, .slice none 0 0] 46 (0, 0)) (by (with_reducible repeat (first | refine blk_drewN ?_ _ | refine blk_drew ?_ | refine blk_alloc ?_ _)); exact BK_g4.out)); have HL_gR_g7 := Aside0.mk (show gR < g7 from by rw [hg]; exact blk_lt (o := .cells #[.string tx, .int .i64 at_, .int .i64 dp, .bool true] 85 (0, 0)) (by (with_reducible repeat (first | refine blk_drewN ?_ _ | refine blk_drew ?_ | refine blk_alloc ?_ _)); exact BK_gR.out)); have HE7 := Aside0.mk hg; have hn47 := (show g4 ≠ g7 from by have := HL_g4_g7.out; omega); have hnR7 := (show gR ≠ g7 from by have := HL_gR_g7.out; omega); have hn47' := Ne.symm hn47; have hnR7' := Ne.symm hnR7; clear hg; have BK_g7 := Aside0.mk hbox; clear hbox; have nb_ := Aside0.mk (below_step (by repeat (first | (with_reducible first | exact HB.out | apply below_alloc | apply pw_below_drewN | apply below_drew1) | exact HB.out)) hb); have n0_ := Aside0.mk (blk_below (g := g4) (o := .cells #[.int .i64 0, .int .i64 0, .slice none 0 0] 46 (0, 0)) (by (with_reducible repeat (first | refine blk_drewN ?_ _ | refine blk_drew ?_ | refine blk_alloc ?_ _)); exact BK_g4.out) hb); have n1_ := Aside0.mk (blk_below (g := gR) (o := .cells #[.string tx, .int .i64 at_, .int .i64 dp, .bool true] 85 (0, 0)) (by (with_reducible repeat (first | refine blk_drewN ?_ _ | refine blk_drew ?_ | refine blk_alloc ?_ _)); exact BK_gR.out) hb); have m0_ := Aside0.mk (Kd.S_mono (Kd.S_old (by (with_reducible repeat (first | apply Kd.S_alloc | apply Kd.S_drewN | apply Kd.S_drew)); exact HSv.out) hb) (ok' := fun k_ => gR < k_ ∧ k_ < g7) (fun k_ hk_ => ⟨hk_.1, by have h2_ := hk_.2; have h3_ := HE7.out; (try simp only [World.drewN, World.drew] at h2_); rw [h3_]; exact h2_⟩)); clear HB hb; have HB := nb_; clear nb_; clear BK_g4 hz_g40 hz_g4f0 hz_g41 hz_g4f1 hz_g42 hz_g4f2; have BK_g4 := n0_; clear n0_; have hz_g40 : w7.cell? ⟨g4, 0, none⟩ = some (.int .i64 0) := (blk_cell BK_g4.out 0).trans rfl; have hz_g4f0 := blk_frozen BK_g4.out 0; have hz_g41 : w7.cell? ⟨g4, 1, none⟩ = some (.int .i64 0) := (blk_cell BK_g4.out 1).trans rfl; have hz_g4f1 := blk_frozen BK_g4.out 1; have hz_g42 : w7.cell? ⟨g4, 2, none⟩ = some (.slice none 0 0) := (blk_cell BK_g4.out 2).trans rfl; have hz_g4f2 := blk_frozen BK_g4.out 2; clear BK_gR hz_gR0 hz_gRf0 hz_gR1 hz_gRf1 hz_gR2 hz_gRf2 hz_gR3 hz_gRf3; have BK_gR := n1_; clear n1_; have hz_gR0 : w7.cell? ⟨gR, 0, none⟩ = some (.string tx) := (blk_cell BK_gR.out 0).trans rfl; have hz_gRf0 := blk_frozen BK_gR.out 0; have hz_gR1 : w7.cell? ⟨gR, 1, none⟩ = some (.int .i64 at_) := (blk_cell BK_gR.out 1).trans rfl; have hz_gRf1 := blk_frozen BK_gR.out 1; have hz_gR2 : w7.cell? ⟨gR, 2, none⟩ = some (.int .i64 dp) := (blk_cell BK_gR.out 2).trans rfl; have hz_gRf2 := blk_frozen BK_gR.out 2; have hz_gR3 : w7.cell? ⟨gR, 3, none⟩ = some (.bool true) := (blk_cell BK_gR.out 3).trans rfl; have hz_gRf3 := blk_frozen BK_gR.out 3; clear HSv; have HSv := m0_; clear m0_; have hz_g70 : w7.cell? ⟨g7, 0, none⟩ = some (.int .i64 0) := (blk_cell BK_g7.out 0).trans rfl; have hz_g7f0 := blk_frozen BK_g7.out 0; have hz_g71 : w7.cell? ⟨g7, 1, none⟩ = some (.int .i64 0) := (blk_cell BK_g7.out 1).trans rfl; have hz_g7f1 := blk_frozen BK_g7.out 1; have hz_g72 : w7.cell? ⟨g7, 2, none⟩ = some (.slice none 0 0) := (blk_cell BK_g7.out 2).trans rfl; have hz_g7f2 := blk_frozen BK_g7.out 2))
    refine bodyPost_ret (results_ct rfl _ _ g4 46 #[.int .i64 0, .int .i64 0, .slice none 0 0] (0, 0) _ rfl (by (with_reducible repeat (first | refine blk_drewN ?_ _ | refine blk_drew ?_ | refine blk_alloc ?_ _)); refine blk_put (cs := #[.int .i64 0, .int .i64 0, .slice none 0 0]) ?_ 2 _ rfl; (with_reducible repeat (first | refine blk_drewN ?_ _ | refine blk_drew ?_ | refine blk_alloc ?_ _)); refine blk_put (cs := #[.int .i64 0, .int .i64 0, .slice none 0 0]) ?_ 1 _ rfl; (with_reducible repeat (first | refine blk_drewN ?_ _ | refine blk_drew ?_ | refine blk_alloc ?_ _)); refine blk_put (cs := #[.int .i64 0, .int .i64 0, .slice none 0 0]) ?_ 0 _ rfl; (with_reducible repeat (first | refine blk_drewN ?_ _ | refine blk_drew ?_ | refine blk_alloc ?_ _)); refine blk_far ?_ hn47 _; refine blk_far ?_ hn47 _; refine blk_far ?_ hn47 _; exact BK_g4.out) Tryd.underlying46 rfl (by kernel_rfl)) rfl ?_
    exact ⟨_, rfl, Kd.S_nil _ _ _ _ _, (by repeat (first | (with_reducible first | exact HB.out | apply below_alloc | apply pw_below_drewN | apply below_drew1 | refine below_set ?_ GW_g4.out | refine below_set ?_ GW_g7.out) | exact HB.out))⟩
   ·replace c6 := Bool.eq_false_iff.mpr c6
    subst c6
    rw [if_neg (show ¬ (false = true) by decide)] at H
    by_cases c7 : at_ = (a1.size : Int)
    ·rw [if_pos c7] at H
     have c7b : (at_ == (a1.size : Int)) = true := beq_iff_eq.mpr c7
     have c7c : (at_ != (a1.size : Int)) = false := bne_eq_false_iff_eq.mpr c7
     replace c7 := Aside0.mk c7
     replace H := Option.bind_eq_some_iff.mp H
     obtain ⟨u, At, H⟩ := H
     have A7 := Aside0.mk At
     clear At
     by_cases c8 : u = true
     ·subst c8
      rw [if_pos rfl] at H
      simp only [Option.some.injEq, Prod.mk.injEq] at H
      obtain ⟨rfl, rfl, rfl, rfl⟩ := H
      go_enter Tryd.func24, Tryd.ntmps24
      go_wp2_with (first | ((with_reducible refine gate_dst (N := 4) rfl ?_); refine box_event ?hg (N := 4) ?hd (cs := #[.int .i64 0, .int .i64 0, .slice none 0 0]) (t := 46) ?hr ?_; (case hd => rfl); (case hg => rfl); (case hr => first | (go_simp; done) | (go_simp; rfl)); intro g4 hg w1 hbox hb; have GW_g4 := Aside0.mk ((by rw [hg]; exact below_size (by repeat (first | (with_reducible first | exact HB.out | apply below_alloc | apply pw_below_drewN | apply below_drew1) | exact HB.out))) : w.heap.size ≤ g4); clear hg; have BK_g4 := Aside0.mk hbox; clear hbox; have nb_ := Aside0.mk (below_step (by repeat (first | (with_reducible first | exact HB.out | apply below_alloc | apply pw_below_drewN | apply below_drew1) | exact HB.out)) hb); clear HB hb; have HB := nb_; clear nb_; have hz_g40 : w1.cell? ⟨g4, 0, none⟩ = some (.int .i64 0) := (blk_cell BK_g4.out 0).trans rfl; have hz_g4f0 := blk_frozen BK_g4.out 0; have hz_g41 : w1.cell? ⟨g4, 1, none⟩ = some (.int .i64 0) := (blk_cell BK_g4.out 1).trans rfl; have hz_g4f1 := blk_frozen BK_g4.out 1; have hz_g42 : w1.cell? ⟨g4, 2, none⟩ = some (.slice none 0 0) := (blk_cell BK_g4.out 2).trans rfl; have hz_g4f2 := blk_frozen BK_g4.out 2) | (go_at_call 55; (with_reducible refine (spec_l00In.calls a0 1 7 true _ A3.out).mono ?_); rintro e w5 ⟨rfl, ⟨nd5, rfl⟩⟩) | ((with_reducible refine gate_dst (N := 19) rfl ?_); refine box_event ?hg (N := 19) ?hd (cs := #[.string a1, .int .i64 0, .int .i64 0, .bool false]) (t := 85) ?hr ?_; (case hd => rfl); (case hg => rfl); (case hr => first | (go_simp; done) | (go_simp; rfl)); intro gR hg w2 hbox hb; have GW_gR := Aside0.mk ((by rw [hg]; exact below_size (by repeat (first | (with_reducible first | exact HB.out | apply below_alloc | apply pw_below_drewN | apply below_drew1) | exact HB.out))) : w.heap.size ≤ gR); have HL_g4_gR := Aside0.mk (show g4 < gR from by rw [hg]; exact blk_lt (o := .cells #[.int .i64 0, .int .i64 0, .slice none 0 0] 46 (0, 0)) (by (with_reducible repeat (first | refine blk_drewN ?_ _ | refine blk_drew ?_ | refine blk_alloc ?_ _)); exact BK_g4.out)); clear hg; have BK_gR := Aside0.mk hbox; clear hbox; have nb_ := Aside0.mk (below_step (by repeat (first | (with_reducible first | exact HB.out | apply below_alloc | apply pw_below_drewN | apply below_drew1) | exact HB.out)) hb); have n0_ := Aside0.mk (blk_below (g := g4) (o := .cells #[.int .i64 0, .int .i64 0, .slice none 0 0] 46 (0, 0)) (by (with_reducible repeat (first | refine blk_drewN ?_ _ | refine blk_drew ?_ | refine blk_alloc ?_ _)); exact BK_g4.out) hb); clear HB hb; have HB := nb_; clear nb_; clear BK_g4 hz_g40 hz_g4f0 hz_g41 hz_g4f1 hz_g42 hz_g4f2; have BK_g4 := n0_; clear n0_; have hz_g40 : w2.cell? ⟨g4, 0, none⟩ = some (.int .i64 0) := (blk_cell BK_g4.out 0).trans rfl; have hz_g4f0 := blk_frozen BK_g4.out 0; have hz_g41 : w2.cell? ⟨g4, 1, none⟩ = some (.int .i64 0) := (blk_cell BK_g4.out 1).trans rfl; have hz_g4f1 := blk_frozen BK_g4.out 1; have hz_g42 : w2.cell? ⟨g4, 2, none⟩ = some (.slice none 0 0) := (blk_cell BK_g4.out 2).trans rfl; have hz_g4f2 := blk_frozen BK_g4.out 2; have hz_gR0 : w2.cell? ⟨gR, 0, none⟩ = some (.string a1) := (blk_cell BK_gR.out 0).trans rfl; have hz_gRf0 := blk_frozen BK_gR.out 0; have hz_gR1 : w2.cell? ⟨gR, 1, none⟩ = some (.int .i64 0) := (blk_cell BK_gR.out 1).trans rfl; have hz_gRf1 := blk_frozen BK_gR.out 1; have hz_gR2 : w2.cell? ⟨gR, 2, none⟩ = some (.int .i64 0) := (blk_cell BK_gR.out 2).trans rfl; have hz_gRf2 := blk_frozen BK_gR.out 2; have hz_gR3 : w2.cell? ⟨gR, 3, none⟩ = some (.bool false) := (blk_cell BK_gR.out 3).trans rfl; have hz_gRf3 := blk_frozen BK_gR.out 3) | (go_at_call 56; (with_reducible refine (spec_l02Reader_gate.calls k gR a1 0 0 false b0 b1 b2 tx at_ dp false w _ ?sI ?sB A6.out).mono ?_); (case sI => exact ⟨(by (with_reducible repeat (first | refine blk_drewN ?_ _ | refine blk_drew ?_ | refine blk_alloc ?_ _)); exact BK_gR.out), GW_gR.out⟩); (case sB => exact (by repeat (first | (with_reducible first | exact HB.out | apply below_alloc | apply pw_below_drewN | apply below_drew1) | exact HB.out))); rintro e w6 ⟨v, rfl, hS, hi, hb, hk⟩; have HSv := Aside0.mk (Kd.S_lower (base' := w.heap.size) (Kd.S_mono (Kd.S_bound hS) (ok' := fun k_ => gR < k_) (fun k_ hk_ => Nat.lt_of_lt_of_le (blk_lt (o := .cells #[.string a1, .int .i64 0, .int .i64 0, .bool false] 85 (0, 0)) (by (with_reducible repeat (first | refine blk_drewN ?_ _ | refine blk_drew ?_ | refine blk_alloc ?_ _)); exact BK_gR.out)) (by exact hk_.2.1))) (below_size (by repeat (first | (with_reducible first | exact HB.out | apply below_alloc | apply pw_below_drewN | apply below_drew1) | exact HB.out)))); obtain ⟨Av, cv, ev_⟩ := Kd.S_slice HSv.out; subst ev_; have n0_ := Aside0.mk (KeepBut.blk hk (g' := g4) (o := .cells #[.int .i64 0, .int .i64 0, .slice none 0 0] 46 (0, 0)) (by (with_reducible repeat (first | refine blk_drewN ?_ _ | refine blk_drew ?_ | refine blk_alloc ?_ _)); exact BK_g4.out) (Nat.ne_of_lt HL_g4_gR.out) (by simp)); have n1_ := Aside0.mk hi.1; clear BK_g4 BK_gR HB hz_g40 hz_g4f0 hz_g41 hz_g4f1 hz_g42 hz_g4f2 hz_gR0 hz_gRf0 hz_gR1 hz_gRf1 hz_gR2 hz_gRf2 hz_gR3 hz_gRf3; have BK_g4 := n0_; have BK_gR := n1_; have HB := Aside0.mk hb; clear n0_ n1_ hS hi hb hk; have hz_g40 : w6.cell? ⟨g4, 0, none⟩ = some (.int .i64 0) := (blk_cell BK_g4.out 0).trans rfl; have hz_g4f0 := blk_frozen BK_g4.out 0; have hz_g41 : w6.cell? ⟨g4, 1, none⟩ = some (.int .i64 0) := (blk_cell BK_g4.out 1).trans rfl; have hz_g4f1 := blk_frozen BK_g4.out 1; have hz_g42 : w6.cell? ⟨g4, 2, none⟩ = some (.slice none 0 0) := (blk_cell BK_g4.out 2).trans rfl; have hz_g4f2 := blk_frozen BK_g4.out 2; have hz_gR0 : w6.cell? ⟨gR, 0, none⟩ = some (.string tx) := (blk_cell BK_gR.out 0).trans rfl; have hz_gRf0 := blk_frozen BK_gR.out 0; have hz_gR1 : w6.cell? ⟨gR, 1, none⟩ = some (.int .i64 at_) := (blk_cell BK_gR.out 1).trans rfl; have hz_gRf1 := blk_frozen BK_gR.out 1; have hz_gR2 : w6.cell? ⟨gR, 2, none⟩ = some (.int .i64 dp) := (blk_cell BK_gR.out 2).trans rfl; have hz_gRf2 := blk_frozen BK_gR.out 2; have hz_gR3 : w6.cell? ⟨gR, 3, none⟩ = some (.bool false) := (blk_cell BK_gR.out 3).trans rfl; have hz_gRf3 := blk_frozen BK_gR.out 3) | ((with_reducible refine gate_dst (N := 7) rfl ?_); refine box_event ?hg (N := 7) ?hd (cs := #[.int .i64 0, .int .i64 0, .slice none 0 0]) (t := 46) ?hr ?_; (case hd => rfl); (case hg => rfl); (case hr => first | (go_simp; done) | (go_simp; rfl)); intro g7 hg w7 hbox hb; have GW_g7 := Aside0.mk ((by rw [hg]; exact below_size (by repeat (first | (with_reducible first | exact HB.out | apply below_alloc | apply pw_below_drewN | apply below_drew1) | exact HB.out))) : w.heap.size ≤ g7); have HL_g4_g7 := Aside0.mk (show g4 < g7 from by rw [hg]; exact blk_lt (o := .cells #[.int .i64 0, .int .i64 0, .slice none 0 0] 46 (0, 0)) (by (with_reducible repeat (first | refine blk_drewN ?_ _ | refine blk_drew ?_ | refine blk_alloc ?_ _)); exact BK_g4.out)); have HL_gR_g7 := Aside0.mk (show gR < g7 from by rw [hg]; exact blk_lt (o := .cells #[.string tx, .int .i64 at_, .int .i64 dp, .bool false] 85 (0, 0)) (by (with_reducible repeat (first | refine blk_drewN ?_ _ | refine blk_drew ?_ | refine blk_alloc ?_ _)); exact BK_gR.out)); have HE7 := Aside0.mk hg; have hn47 := (show g4 ≠ g7 from by have := HL_g4_g7.out; omega); have hnR7 := (show gR ≠ g7 from by have := HL_gR_g7.out; omega); have hn47' := Ne.symm hn47; have hnR7' := Ne.symm hnR7; clear hg; have BK_g7 := Aside0.mk hbox; clear hbox; have nb_ := Aside0.mk (below_step (by repeat (first | (with_reducible first | exact HB.out | apply below_alloc | apply pw_below_drewN | apply below_drew1) | exact HB.out)) hb); have n0_ := Aside0.mk (blk_below (g := g4) (o := .cells #[.int .i64 0, .int .i64 0, .slice none 0 0] 46 (0, 0)) (by (with_reducible repeat (first | refine blk_drewN ?_ _ | refine blk_drew ?_ | refine blk_alloc ?_ _)); exact BK_g4.out) hb); have n1_ := Aside0.mk (blk_below (g := gR) (o := .cells #[.string tx, .int .i64 at_, .int .i64 dp, .bool false] 85 (0, 0)) (by (with_reducible repeat (first | refine blk_drewN ?_ _ | refine blk_drew ?_ | refine blk_alloc ?_ _)); exact BK_gR.out) hb); have m0_ := Aside0.mk (Kd.S_mono (Kd.S_old (by (with_reducible repeat (first | apply Kd.S_alloc | apply Kd.S_drewN | apply Kd.S_drew)); exact HSv.out) hb) (ok' := fun k_ => gR < k_ ∧ k_ < g7) (fun k_ hk_ => ⟨hk_.1, by have h2_ := hk_.2; have h3_ := HE7.out; (try simp only [World.drewN, World.drew] at h2_); rw [h3_]; exact h2_⟩)); clear HB hb; have HB := nb_; clear nb_; clear BK_g4 hz_g40 hz_g4f0 hz_g41 hz_g4f1 hz_g42 hz_g4f2; have BK_g4 := n0_; clear n0_; have hz_g40 : w7.cell? ⟨g4, 0, none⟩ = some (.int .i64 0) := (blk_cell BK_g4.out 0).trans rfl; have hz_g4f0 := blk_frozen BK_g4.out 0; have hz_g41 : w7.cell? ⟨g4, 1, none⟩ = some (.int .i64 0) := (blk_cell BK_g4.out 1).trans rfl; have hz_g4f1 := blk_frozen BK_g4.out 1; have hz_g42 : w7.cell? ⟨g4, 2, none⟩ = some (.slice none 0 0) := (blk_cell BK_g4.out 2).trans rfl; have hz_g4f2 := blk_frozen BK_g4.out 2; clear BK_gR hz_gR0 hz_gRf0 hz_gR1 hz_gRf1 hz_gR2 hz_gRf2 hz_gR3 hz_gRf3; have BK_gR := n1_; clear n1_; have hz_gR0 : w7.cell? ⟨gR, 0, none⟩ = some (.string tx) := (blk_cell BK_gR.out 0).trans rfl; have hz_gRf0 := blk_frozen BK_gR.out 0; have hz_gR1 : w7.cell? ⟨gR, 1, none⟩ = some (.int .i64 at_) := (blk_cell BK_gR.out 1).trans rfl; have hz_gRf1 := blk_frozen BK_gR.out 1; have hz_gR2 : w7.cell? ⟨gR, 2, none⟩ = some (.int .i64 dp) := (blk_cell BK_gR.out 2).trans rfl; have hz_gRf2 := blk_frozen BK_gR.out 2; have hz_gR3 : w7.cell? ⟨gR, 3, none⟩ = some (.bool false) := (blk_cell BK_gR.out 3).trans rfl; have hz_gRf3 := blk_frozen BK_gR.out 3; clear HSv; have HSv := m0_; clear m0_; have hz_g70 : w7.cell? ⟨g7, 0, none⟩ = some (.int .i64 0) := (blk_cell BK_g7.out 0).trans rfl; have hz_g7f0 := blk_frozen BK_g7.out 0; have hz_g71 : w7.cell? ⟨g7, 1, none⟩ = some (.int .i64 0) := (blk_cell BK_g7.out 1).trans rfl; have hz_g7f1 := blk_frozen BK_g7.out 1; have hz_g72 : w7.cell? ⟨g7, 2, none⟩ = some (.slice none 0 0) := (blk_cell BK_g7.out 2).trans rfl; have hz_g7f2 := blk_frozen BK_g7.out 2) | (go_at_call 49; (with_reducible refine (spec_l02Ok.calls k a0 _ ⟨b0, b1, b2⟩ true _ ?side1 A7.out).mono ?_); (case side1 => exact gate_box (by (with_reducible repeat (first | refine blk_drewN ?_ _ | refine blk_drew ?_ | refine blk_alloc ?_ _)); refine blk_put (cs := #[.int .i64 b0, .int .i64 b1, .slice none 0 0]) ?_ 2 _ rfl; (with_reducible repeat (first | refine blk_drewN ?_ _ | refine blk_drew ?_ | refine blk_alloc ?_ _)); refine blk_put (cs := #[.int .i64 b0, .int .i64 0, .slice none 0 0]) ?_ 1 _ rfl; (with_reducible repeat (first | refine blk_drewN ?_ _ | refine blk_drew ?_ | refine blk_alloc ?_ _)); refine blk_put (cs := #[.int .i64 0, .int .i64 0, .slice none 0 0]) ?_ 0 _ rfl; (with_reducible repeat (first | refine blk_drewN ?_ _ | refine blk_drew ?_ | refine blk_alloc ?_ _)); exact BK_g7.out) (Kd.G_reads' (Kd.S_far (p := ⟨g7, 2, none⟩) (Kd.S_far (p := ⟨g7, 1, none⟩) (Kd.S_far (p := ⟨g7, 0, none⟩) HSv.out (fun k_ hk_ => by have h_ := hk_.2; show k_ ≠ g7; omega) _) (fun k_ hk_ => by have h_ := hk_.2; show k_ ≠ g7; omega) _) (fun k_ hk_ => by have h_ := hk_.2; show k_ ≠ g7; omega) _)).2.2 (Kd.G_reads' HSv.out).2.1); rintro e w10 ⟨rfl, ⟨nd9, rfl⟩⟩))
      refine bodyPost_ret (results_ct rfl _ _ g4 46 #[.int .i64 b0, .int .i64 b1, .slice Av b2.length cv] (0, 0) _ rfl (by (with_reducible repeat (first | refine blk_drewN ?_ _ | refine blk_drew ?_ | refine blk_alloc ?_ _)); refine blk_put (cs := #[.int .i64 b0, .int .i64 b1, .slice none 0 0]) ?_ 2 _ rfl; (with_reducible repeat (first | refine blk_drewN ?_ _ | refine blk_drew ?_ | refine blk_alloc ?_ _)); refine blk_put (cs := #[.int .i64 b0, .int .i64 0, .slice none 0 0]) ?_ 1 _ rfl; (with_reducible repeat (first | refine blk_drewN ?_ _ | refine blk_drew ?_ | refine blk_alloc ?_ _)); refine blk_put (cs := #[.int .i64 0, .int .i64 0, .slice none 0 0]) ?_ 0 _ rfl; (with_reducible repeat (first | refine blk_drewN ?_ _ | refine blk_drew ?_ | refine blk_alloc ?_ _)); refine blk_far ?_ hn47 _; refine blk_far ?_ hn47 _; refine blk_far ?_ hn47 _; exact BK_g4.out) Tryd.underlying46 rfl (by kernel_rfl)) rfl ?_
      exact ⟨_, rfl, Kd.S_mono (Kd.S_far (p := ⟨g4, 2, none⟩) (Kd.S_far (p := ⟨g4, 1, none⟩) (Kd.S_far (p := ⟨g4, 0, none⟩) (by (with_reducible repeat (first | apply Kd.S_alloc | apply Kd.S_drewN | apply Kd.S_drew)); exact (Kd.S_far (p := ⟨g7, 2, none⟩) (Kd.S_far (p := ⟨g7, 1, none⟩) (Kd.S_far (p := ⟨g7, 0, none⟩) HSv.out (fun k_ hk_ => by have h_ := hk_.2; show k_ ≠ g7; omega) _) (fun k_ hk_ => by have h_ := hk_.2; show k_ ≠ g7; omega) _) (fun k_ hk_ => by have h_ := hk_.2; show k_ ≠ g7; omega) _)) (fun k_ hk_ => by have h_ := hk_.1; have := HL_g4_gR.out; show k_ ≠ g4; omega) _) (fun k_ hk_ => by have h_ := hk_.1; have := HL_g4_gR.out; show k_ ≠ g4; omega) _) (fun k_ hk_ => by have h_ := hk_.1; have := HL_g4_gR.out; show k_ ≠ g4; omega) _) (fun _ _ => trivial), (by repeat (first | (with_reducible first | exact HB.out | apply below_alloc | apply pw_below_drewN | apply below_drew1 | refine below_set ?_ GW_g4.out | refine below_set ?_ GW_g7.out) | exact HB.out))⟩
     ·replace c8 := Bool.eq_false_iff.mpr c8
      subst c8
      rw [if_neg (show ¬ (false = true) by decide)] at H
      simp only [Option.some.injEq, Prod.mk.injEq] at H
      obtain ⟨rfl, rfl, rfl, rfl⟩ := H
      go_enter Tryd.func24, Tryd.ntmps24
      go_wp2_with (first | ((with_reducible refine gate_dst (N := 4) rfl ?_); refine box_event ?hg (N := 4) ?hd (cs := #[.int .i64 0, .int .i64 0, .slice none 0 0]) (t := 46) ?hr ?_; (case hd => rfl); (case hg => rfl); (case hr => first | (go_simp; done) | (go_simp; rfl)); intro g4 hg w1 hbox hb; have GW_g4 := Aside0.mk ((by rw [hg]; exact below_size (by repeat (first | (with_reducible first | exact HB.out | apply below_alloc | apply pw_below_drewN | apply below_drew1) | exact HB.out))) : w.heap.size ≤ g4); clear hg; have BK_g4 := Aside0.mk hbox; clear hbox; have nb_ := Aside0.mk (below_step (by repeat (first | (with_reducible first | exact HB.out | apply below_alloc | apply pw_below_drewN | apply below_drew1) | exact HB.out)) hb); clear HB hb; have HB := nb_; clear nb_; have hz_g40 : w1.cell? ⟨g4, 0, none⟩ = some (.int .i64 0) := (blk_cell BK_g4.out 0).trans rfl; have hz_g4f0 := blk_frozen BK_g4.out 0; have hz_g41 : w1.cell? ⟨g4, 1, none⟩ = some (.int .i64 0) := (blk_cell BK_g4.out 1).trans rfl; have hz_g4f1 := blk_frozen BK_g4.out 1; have hz_g42 : w1.cell? ⟨g4, 2, none⟩ = some (.slice none 0 0) := (blk_cell BK_g4.out 2).trans rfl; have hz_g4f2 := blk_frozen BK_g4.out 2) | (go_at_call 55; (with_reducible refine (spec_l00In.calls a0 1 7 true _ A3.out).mono ?_); rintro e w5 ⟨rfl, ⟨nd5, rfl⟩⟩) | ((with_reducible refine gate_dst (N := 19) rfl ?_); refine box_event ?hg (N := 19) ?hd (cs := #[.string a1, .int .i64 0, .int .i64 0, .bool false]) (t := 85) ?hr ?_; (case hd => rfl); (case hg => rfl); (case hr => first | (go_simp; done) | (go_simp; rfl)); intro gR hg w2 hbox hb; have GW_gR := Aside0.mk ((by rw [hg]; exact below_size (by repeat (first | (with_reducible first | exact HB.out | apply below_alloc | apply pw_below_drewN | apply below_drew1) | exact HB.out))) : w.heap.size ≤ gR); have HL_g4_gR := Aside0.mk (show g4 < gR from by rw [hg]; exact blk_lt (o := .cells #[.int .i64 0, .int .i64 0, .slice none 0 0] 46 (0, 0)) (by (with_reducible repeat (first | refine blk_drewN ?_ _ | refine blk_drew ?_ | refine blk_alloc ?_ _)); exact BK_g4.out)); clear hg; have BK_gR := Aside0.mk hbox; clear hbox; have nb_ := Aside0.mk (below_step (by repeat (first | (with_reducible first | exact HB.out | apply below_alloc | apply pw_below_drewN | apply below_drew1) | exact HB.out)) hb); have n0_ := Aside0.mk (blk_below (g := g4) (o := .cells #[.int .i64 0, .int .i64 0, .slice none 0 0] 46 (0, 0)) (by (with_reducible repeat (first | refine blk_drewN ?_ _ | refine blk_drew ?_ | refine blk_alloc ?_ _)); exact BK_g4.out) hb); clear HB hb; have HB := nb_; clear nb_; clear BK_g4 hz_g40 hz_g4f0 hz_g41 hz_g4f1 hz_g42 hz_g4f2; have BK_g4 := n0_; clear n0_; have hz_g40 : w2.cell? ⟨g4, 0, none⟩ = some (.int .i64 0) := (blk_cell BK_g4.out 0).trans rfl; have hz_g4f0 := blk_frozen BK_g4.out 0; have hz_g41 : w2.cell? ⟨g4, 1, none⟩ = some (.int .i64 0) := (blk_cell BK_g4.out 1).trans rfl; have hz_g4f1 := blk_frozen BK_g4.out 1; have hz_g42 : w2.cell? ⟨g4, 2, none⟩ = some (.slice none 0 0) := (blk_cell BK_g4.out 2).trans rfl; have hz_g4f2 := blk_frozen BK_g4.out 2; have hz_gR0 : w2.cell? ⟨gR, 0, none⟩ = some (.string a1) := (blk_cell BK_gR.out 0).trans rfl; have hz_gRf0 := blk_frozen BK_gR.out 0; have hz_gR1 : w2.cell? ⟨gR, 1, none⟩ = some (.int .i64 0) := (blk_cell BK_gR.out 1).trans rfl; have hz_gRf1 := blk_frozen BK_gR.out 1; have hz_gR2 : w2.cell? ⟨gR, 2, none⟩ = some (.int .i64 0) := (blk_cell BK_gR.out 2).trans rfl; have hz_gRf2 := blk_frozen BK_gR.out 2; have hz_gR3 : w2.cell? ⟨gR, 3, none⟩ = some (.bool false) := (blk_cell BK_gR.out 3).trans rfl; have hz_gRf3 := blk_frozen BK_gR.out 3) | (go_at_call 56; (with_reducible refine (spec_l02Reader_gate.calls k gR a1 0 0 false b0 b1 b2 tx at_ dp false w _ ?sI ?sB A6.out).mono ?_); (case sI => exact ⟨(by (with_reducible repeat (first | refine blk_drewN ?_ _ | refine blk_drew ?_ | refine blk_alloc ?_ _)); exact BK_gR.out), GW_gR.out⟩); (case sB => exact (by repeat (first | (with_reducible first | exact HB.out | apply below_alloc | apply pw_below_drewN | apply below_drew1) | exact HB.out))); rintro e w6 ⟨v, rfl, hS, hi, hb, hk⟩; have HSv := Aside0.mk (Kd.S_lower (base' := w.heap.size) (Kd.S_mono (Kd.S_bound hS) (ok' := fun k_ => gR < k_) (fun k_ hk_ => Nat.lt_of_lt_of_le (blk_lt (o := .cells #[.string a1, .int .i64 0, .int .i64 0, .bool false] 85 (0, 0)) (by (with_reducible repeat (first | refine blk_drewN ?_ _ | refine blk_drew ?_ | refine blk_alloc ?_ _)); exact BK_gR.out)) (by exact hk_.2.1))) (below_size (by repeat (first | (with_reducible first | exact HB.out | apply below_alloc | apply pw_below_drewN | apply below_drew1) | exact HB.out)))); obtain ⟨Av, cv, ev_⟩ := Kd.S_slice HSv.out; subst ev_; have n0_ := Aside0.mk (KeepBut.blk hk (g' := g4) (o := .cells #[.int .i64 0, .int .i64 0, .slice none 0 0] 46 (0, 0)) (by (with_reducible repeat (first | refine blk_drewN ?_ _ | refine blk_drew ?_ | refine blk_alloc ?_ _)); exact BK_g4.out) (Nat.ne_of_lt HL_g4_gR.out) (by simp)); have n1_ := Aside0.mk hi.1; clear BK_g4 BK_gR HB hz_g40 hz_g4f0 hz_g41 hz_g4f1 hz_g42 hz_g4f2 hz_gR0 hz_gRf0 hz_gR1 hz_gRf1 hz_gR2 hz_gRf2 hz_gR3 hz_gRf3; have BK_g4 := n0_; have BK_gR := n1_; have HB := Aside0.mk hb; clear n0_ n1_ hS hi hb hk; have hz_g40 : w6.cell? ⟨g4, 0, none⟩ = some (.int .i64 0) := (blk_cell BK_g4.out 0).trans rfl; have hz_g4f0 := blk_frozen BK_g4.out 0; have hz_g41 : w6.cell? ⟨g4, 1, none⟩ = some (.int .i64 0) := (blk_cell BK_g4.out 1).trans rfl; have hz_g4f1 := blk_frozen BK_g4.out 1; have hz_g42 : w6.cell? ⟨g4, 2, none⟩ = some (.slice none 0 0) := (blk_cell BK_g4.out 2).trans rfl; have hz_g4f2 := blk_frozen BK_g4.out 2; have hz_gR0 : w6.cell? ⟨gR, 0, none⟩ = some (.string tx) := (blk_cell BK_gR.out 0).trans rfl; have hz_gRf0 := blk_frozen BK_gR.out 0; have hz_gR1 : w6.cell? ⟨gR, 1, none⟩ = some (.int .i64 at_) := (blk_cell BK_gR.out 1).trans rfl; have hz_gRf1 := blk_frozen BK_gR.out 1; have hz_gR2 : w6.cell? ⟨gR, 2, none⟩ = some (.int .i64 dp) := (blk_cell BK_gR.out 2).trans rfl; have hz_gRf2 := blk_frozen BK_gR.out 2; have hz_gR3 : w6.cell? ⟨gR, 3, none⟩ = some (.bool false) := (blk_cell BK_gR.out 3).trans rfl; have hz_gRf3 := blk_frozen BK_gR.out 3) | ((with_reducible refine gate_dst (N := 7) rfl ?_); refine box_event ?hg (N := 7) ?hd (cs := #[.int .i64 0, .int .i64 0, .slice none 0 0]) (t := 46) ?hr ?_; (case hd => rfl); (case hg => rfl); (case hr => first | (go_simp; done) | (go_simp; rfl)); intro g7 hg w7 hbox hb; have GW_g7 := Aside0.mk ((by rw [hg]; exact below_size (by repeat (first | (with_reducible first | exact HB.out | apply below_alloc | apply pw_below_drewN | apply below_drew1) | exact HB.out))) : w.heap.size ≤ g7); have HL_g4_g7 := Aside0.mk (show g4 < g7 from by rw [hg]; exact blk_lt (o := .cells #[.int .i64 0, .int .i64 0, .slice none 0 0] 46 (0, 0)) (by (with_reducible repeat (first | refine blk_drewN ?_ _ | refine blk_drew ?_ | refine blk_alloc ?_ _)); exact BK_g4.out)); have HL_gR_g7 := Aside0.mk (show gR < g7 from by rw [hg]; exact blk_lt (o := .cells #[.string tx, .int .i64 at_, .int .i64 dp, .bool false] 85 (0, 0)) (by (with_reducible repeat (first | refine blk_drewN ?_ _ | refine blk_drew ?_ | refine blk_alloc ?_ _)); exact BK_gR.out)); have HE7 := Aside0.mk hg; have hn47 := (show g4 ≠ g7 from by have := HL_g4_g7.out; omega); have hnR7 := (show gR ≠ g7 from by have := HL_gR_g7.out; omega); have hn47' := Ne.symm hn47; have hnR7' := Ne.symm hnR7; clear hg; have BK_g7 := Aside0.mk hbox; clear hbox; have nb_ := Aside0.mk (below_step (by repeat (first | (with_reducible first | exact HB.out | apply below_alloc | apply pw_below_drewN | apply below_drew1) | exact HB.out)) hb); have n0_ := Aside0.mk (blk_below (g := g4) (o := .cells #[.int .i64 0, .int .i64 0, .slice none 0 0] 46 (0, 0)) (by (with_reducible repeat (first | refine blk_drewN ?_ _ | refine blk_drew ?_ | refine blk_alloc ?_ _)); exact BK_g4.out) hb); have n1_ := Aside0.mk (blk_below (g := gR) (o := .cells #[.string tx, .int .i64 at_, .int .i64 dp, .bool false] 85 (0, 0)) (by (with_reducible repeat (first | refine blk_drewN ?_ _ | refine blk_drew ?_ | refine blk_alloc ?_ _)); exact BK_gR.out) hb); have m0_ := Aside0.mk (Kd.S_mono (Kd.S_old (by (with_reducible repeat (first | apply Kd.S_alloc | apply Kd.S_drewN | apply Kd.S_drew)); exact HSv.out) hb) (ok' := fun k_ => gR < k_ ∧ k_ < g7) (fun k_ hk_ => ⟨hk_.1, by have h2_ := hk_.2; have h3_ := HE7.out; (try simp only [World.drewN, World.drew] at h2_); rw [h3_]; exact h2_⟩)); clear HB hb; have HB := nb_; clear nb_; clear BK_g4 hz_g40 hz_g4f0 hz_g41 hz_g4f1 hz_g42 hz_g4f2; have BK_g4 := n0_; clear n0_; have hz_g40 : w7.cell? ⟨g4, 0, none⟩ = some (.int .i64 0) := (blk_cell BK_g4.out 0).trans rfl; have hz_g4f0 := blk_frozen BK_g4.out 0; have hz_g41 : w7.cell? ⟨g4, 1, none⟩ = some (.int .i64 0) := (blk_cell BK_g4.out 1).trans rfl; have hz_g4f1 := blk_frozen BK_g4.out 1; have hz_g42 : w7.cell? ⟨g4, 2, none⟩ = some (.slice none 0 0) := (blk_cell BK_g4.out 2).trans rfl; have hz_g4f2 := blk_frozen BK_g4.out 2; clear BK_gR hz_gR0 hz_gRf0 hz_gR1 hz_gRf1 hz_gR2 hz_gRf2 hz_gR3 hz_gRf3; have BK_gR := n1_; clear n1_; have hz_gR0 : w7.cell? ⟨gR, 0, none⟩ = some (.string tx) := (blk_cell BK_gR.out 0).trans rfl; have hz_gRf0 := blk_frozen BK_gR.out 0; have hz_gR1 : w7.cell? ⟨gR, 1, none⟩ = some (.int .i64 at_) := (blk_cell BK_gR.out 1).trans rfl; have hz_gRf1 := blk_frozen BK_gR.out 1; have hz_gR2 : w7.cell? ⟨gR, 2, none⟩ = some (.int .i64 dp) := (blk_cell BK_gR.out 2).trans rfl; have hz_gRf2 := blk_frozen BK_gR.out 2; have hz_gR3 : w7.cell? ⟨gR, 3, none⟩ = some (.bool false) := (blk_cell BK_gR.out 3).trans rfl; have hz_gRf3 := blk_frozen BK_gR.out 3; clear HSv; have HSv := m0_; clear m0_; have hz_g70 : w7.cell? ⟨g7, 0, none⟩ = some (.int .i64 0) := (blk_cell BK_g7.out 0).trans rfl; have hz_g7f0 := blk_frozen BK_g7.out 0; have hz_g71 : w7.cell? ⟨g7, 1, none⟩ = some (.int .i64 0) := (blk_cell BK_g7.out 1).trans rfl; have hz_g7f1 := blk_frozen BK_g7.out 1; have hz_g72 : w7.cell? ⟨g7, 2, none⟩ = some (.slice none 0 0) := (blk_cell BK_g7.out 2).trans rfl; have hz_g7f2 := blk_frozen BK_g7.out 2) | (go_at_call 49; (with_reducible refine (spec_l02Ok.calls k a0 _ ⟨b0, b1, b2⟩ false _ ?side1 A7.out).mono ?_); (case side1 => exact gate_box (by (with_reducible repeat (first | refine blk_drewN ?_ _ | refine blk_drew ?_ | refine blk_alloc ?_ _)); refine blk_put (cs := #[.int .i64 b0, .int .i64 b1, .slice none 0 0]) ?_ 2 _ rfl; (with_reducible repeat (first | refine blk_drewN ?_ _ | refine blk_drew ?_ | refine blk_alloc ?_ _)); refine blk_put (cs := #[.int .i64 b0, .int .i64 0, .slice none 0 0]) ?_ 1 _ rfl; (with_reducible repeat (first | refine blk_drewN ?_ _ | refine blk_drew ?_ | refine blk_alloc ?_ _)); refine blk_put (cs := #[.int .i64 0, .int .i64 0, .slice none 0 0]) ?_ 0 _ rfl; (with_reducible repeat (first | refine blk_drewN ?_ _ | refine blk_drew ?_ | refine blk_alloc ?_ _)); exact BK_g7.out) (Kd.G_reads' (Kd.S_far (p := ⟨g7, 2, none⟩) (Kd.S_far (p := ⟨g7, 1, none⟩) (Kd.S_far (p := ⟨g7, 0, none⟩) HSv.out (fun k_ hk_ => by have h_ := hk_.2; show k_ ≠ g7; omega) _) (fun k_ hk_ => by have h_ := hk_.2; show k_ ≠ g7; omega) _) (fun k_ hk_ => by have h_ := hk_.2; show k_ ≠ g7; omega) _)).2.2 (Kd.G_reads' HSv.out).2.1); rintro e w10 ⟨rfl, ⟨nd9, rfl⟩⟩))
      refine bodyPost_ret (results_ct rfl _ _ g4 46 #[.int .i64 0, .int .i64 0, .slice none 0 0] (0, 0) _ rfl (by (with_reducible repeat (first | refine blk_drewN ?_ _ | refine blk_drew ?_ | refine blk_alloc ?_ _)); refine blk_put (cs := #[.int .i64 0, .int .i64 0, .slice none 0 0]) ?_ 2 _ rfl; (with_reducible repeat (first | refine blk_drewN ?_ _ | refine blk_drew ?_ | refine blk_alloc ?_ _)); refine blk_put (cs := #[.int .i64 0, .int .i64 0, .slice none 0 0]) ?_ 1 _ rfl; (with_reducible repeat (first | refine blk_drewN ?_ _ | refine blk_drew ?_ | refine blk_alloc ?_ _)); refine blk_put (cs := #[.int .i64 0, .int .i64 0, .slice none 0 0]) ?_ 0 _ rfl; (with_reducible repeat (first | refine blk_drewN ?_ _ | refine blk_drew ?_ | refine blk_alloc ?_ _)); refine blk_far ?_ hn47 _; refine blk_far ?_ hn47 _; refine blk_far ?_ hn47 _; exact BK_g4.out) Tryd.underlying46 rfl (by kernel_rfl)) rfl ?_
      exact ⟨_, rfl, Kd.S_nil _ _ _ _ _, (by repeat (first | (with_reducible first | exact HB.out | apply below_alloc | apply pw_below_drewN | apply below_drew1 | refine below_set ?_ GW_g4.out | refine below_set ?_ GW_g7.out) | exact HB.out))⟩
    ·rw [if_neg c7] at H
     have c7b : (at_ == (a1.size : Int)) = false := beq_eq_false_iff_ne.mpr c7
     have c7c : (at_ != (a1.size : Int)) = true := bne_iff_ne.mpr c7
     replace c7 := Aside0.mk c7
     simp only [Option.some.injEq, Prod.mk.injEq] at H
     obtain ⟨rfl, rfl, rfl, rfl⟩ := H
     go_enter Tryd.func24, Tryd.ntmps24
     go_wp2_with (first | ((with_reducible refine gate_dst (N := 4) rfl ?_); refine box_event ?hg (N := 4) ?hd (cs := #[.int .i64 0, .int .i64 0, .slice none 0 0]) (t := 46) ?hr ?_; (case hd => rfl); (case hg => rfl); (case hr => first | (go_simp; done) | (go_simp; rfl)); intro g4 hg w1 hbox hb; have GW_g4 := Aside0.mk ((by rw [hg]; exact below_size (by repeat (first | (with_reducible first | exact HB.out | apply below_alloc | apply pw_below_drewN | apply below_drew1) | exact HB.out))) : w.heap.size ≤ g4); clear hg; have BK_g4 := Aside0.mk hbox; clear hbox; have nb_ := Aside0.mk (below_step (by repeat (first | (with_reducible first | exact HB.out | apply below_alloc | apply pw_below_drewN | apply below_drew1) | exact HB.out)) hb); clear HB hb; have HB := nb_; clear nb_; have hz_g40 : w1.cell? ⟨g4, 0, none⟩ = some (.int .i64 0) := (blk_cell BK_g4.out 0).trans rfl; have hz_g4f0 := blk_frozen BK_g4.out 0; have hz_g41 : w1.cell? ⟨g4, 1, none⟩ = some (.int .i64 0) := (blk_cell BK_g4.out 1).trans rfl; have hz_g4f1 := blk_frozen BK_g4.out 1; have hz_g42 : w1.cell? ⟨g4, 2, none⟩ = some (.slice none 0 0) := (blk_cell BK_g4.out 2).trans rfl; have hz_g4f2 := blk_frozen BK_g4.out 2) | (go_at_call 55; (with_reducible refine (spec_l00In.calls a0 1 7 true _ A3.out).mono ?_); rintro e w5 ⟨rfl, ⟨nd5, rfl⟩⟩) | ((with_reducible refine gate_dst (N := 19) rfl ?_); refine box_event ?hg (N := 19) ?hd (cs := #[.string a1, .int .i64 0, .int .i64 0, .bool false]) (t := 85) ?hr ?_; (case hd => rfl); (case hg => rfl); (case hr => first | (go_simp; done) | (go_simp; rfl)); intro gR hg w2 hbox hb; have GW_gR := Aside0.mk ((by rw [hg]; exact below_size (by repeat (first | (with_reducible first | exact HB.out | apply below_alloc | apply pw_below_drewN | apply below_drew1) | exact HB.out))) : w.heap.size ≤ gR); have HL_g4_gR := Aside0.mk (show g4 < gR from by rw [hg]; exact blk_lt (o := .cells #[.int .i64 0, .int .i64 0, .slice none 0 0] 46 (0, 0)) (by (with_reducible repeat (first | refine blk_drewN ?_ _ | refine blk_drew ?_ | refine blk_alloc ?_ _)); exact BK_g4.out)); clear hg; have BK_gR := Aside0.mk hbox; clear hbox; have nb_ := Aside0.mk (below_step (by repeat (first | (with_reducible first | exact HB.out | apply below_alloc | apply pw_below_drewN | apply below_drew1) | exact HB.out)) hb); have n0_ := Aside0.mk (blk_below (g := g4) (o := .cells #[.int .i64 0, .int .i64 0, .slice none 0 0] 46 (0, 0)) (by (with_reducible repeat (first | refine blk_drewN ?_ _ | refine blk_drew ?_ | refine blk_alloc ?_ _)); exact BK_g4.out) hb); clear HB hb; have HB := nb_; clear nb_; clear BK_g4 hz_g40 hz_g4f0 hz_g41 hz_g4f1 hz_g42 hz_g4f2; have BK_g4 := n0_; clear n0_; have hz_g40 : w2.cell? ⟨g4, 0, none⟩ = some (.int .i64 0) := (blk_cell BK_g4.out 0).trans rfl; have hz_g4f0 := blk_frozen BK_g4.out 0; have hz_g41 : w2.cell? ⟨g4, 1, none⟩ = some (.int .i64 0) := (blk_cell BK_g4.out 1).trans rfl; have hz_g4f1 := blk_frozen BK_g4.out 1; have hz_g42 : w2.cell? ⟨g4, 2, none⟩ = some (.slice none 0 0) := (blk_cell BK_g4.out 2).trans rfl; have hz_g4f2 := blk_frozen BK_g4.out 2; have hz_gR0 : w2.cell? ⟨gR, 0, none⟩ = some (.string a1) := (blk_cell BK_gR.out 0).trans rfl; have hz_gRf0 := blk_frozen BK_gR.out 0; have hz_gR1 : w2.cell? ⟨gR, 1, none⟩ = some (.int .i64 0) := (blk_cell BK_gR.out 1).trans rfl; have hz_gRf1 := blk_frozen BK_gR.out 1; have hz_gR2 : w2.cell? ⟨gR, 2, none⟩ = some (.int .i64 0) := (blk_cell BK_gR.out 2).trans rfl; have hz_gRf2 := blk_frozen BK_gR.out 2; have hz_gR3 : w2.cell? ⟨gR, 3, none⟩ = some (.bool false) := (blk_cell BK_gR.out 3).trans rfl; have hz_gRf3 := blk_frozen BK_gR.out 3) | (go_at_call 56; (with_reducible refine (spec_l02Reader_gate.calls k gR a1 0 0 false b0 b1 b2 tx at_ dp false w _ ?sI ?sB A6.out).mono ?_); (case sI => exact ⟨(by (with_reducible repeat (first | refine blk_drewN ?_ _ | refine blk_drew ?_ | refine blk_alloc ?_ _)); exact BK_gR.out), GW_gR.out⟩); (case sB => exact (by repeat (first | (with_reducible first | exact HB.out | apply below_alloc | apply pw_below_drewN | apply below_drew1) | exact HB.out))); rintro e w6 ⟨v, rfl, hS, hi, hb, hk⟩; have HSv := Aside0.mk (Kd.S_lower (base' := w.heap.size) (Kd.S_mono (Kd.S_bound hS) (ok' := fun k_ => gR < k_) (fun k_ hk_ => Nat.lt_of_lt_of_le (blk_lt (o := .cells #[.string a1, .int .i64 0, .int .i64 0, .bool false] 85 (0, 0)) (by (with_reducible repeat (first | refine blk_drewN ?_ _ | refine blk_drew ?_ | refine blk_alloc ?_ _)); exact BK_gR.out)) (by exact hk_.2.1))) (below_size (by repeat (first | (with_reducible first | exact HB.out | apply below_alloc | apply pw_below_drewN | apply below_drew1) | exact HB.out)))); obtain ⟨Av, cv, ev_⟩ := Kd.S_slice HSv.out; subst ev_; have n0_ := Aside0.mk (KeepBut.blk hk (g' := g4) (o := .cells #[.int .i64 0, .int .i64 0, .slice none 0 0] 46 (0, 0)) (by (with_reducible repeat (first | refine blk_drewN ?_ _ | refine blk_drew ?_ | refine blk_alloc ?_ _)); exact BK_g4.out) (Nat.ne_of_lt HL_g4_gR.out) (by simp)); have n1_ := Aside0.mk hi.1; clear BK_g4 BK_gR HB hz_g40 hz_g4f0 hz_g41 hz_g4f1 hz_g42 hz_g4f2 hz_gR0 hz_gRf0 hz_gR1 hz_gRf1 hz_gR2 hz_gRf2 hz_gR3 hz_gRf3; have BK_g4 := n0_; have BK_gR := n1_; have HB := Aside0.mk hb; clear n0_ n1_ hS hi hb hk; have hz_g40 : w6.cell? ⟨g4, 0, none⟩ = some (.int .i64 0) := (blk_cell BK_g4.out 0).trans rfl; have hz_g4f0 := blk_frozen BK_g4.out 0; have hz_g41 : w6.cell? ⟨g4, 1, none⟩ = some (.int .i64 0) := (blk_cell BK_g4.out 1).trans rfl; have hz_g4f1 := blk_frozen BK_g4.out 1; have hz_g42 : w6.cell? ⟨g4, 2, none⟩ = some (.slice none 0 0) := (blk_cell BK_g4.out 2).trans rfl; have hz_g4f2 := blk_frozen BK_g4.out 2; have hz_gR0 : w6.cell? ⟨gR, 0, none⟩ = some (.string tx) := (blk_cell BK_gR.out 0).trans rfl; have hz_gRf0 := blk_frozen BK_gR.out 0; have hz_gR1 : w6.cell? ⟨gR, 1, none⟩ = some (.int .i64 at_) := (blk_cell BK_gR.out 1).trans rfl; have hz_gRf1 := blk_frozen BK_gR.out 1; have hz_gR2 : w6.cell? ⟨gR, 2, none⟩ = some (.int .i64 dp) := (blk_cell BK_gR.out 2).trans rfl; have hz_gRf2 := blk_frozen BK_gR.out 2; have hz_gR3 : w6.cell? ⟨gR, 3, none⟩ = some (.bool false) := (blk_cell BK_gR.out 3).trans rfl; have hz_gRf3 := blk_frozen BK_gR.out 3) | ((with_reducible refine gate_dst (N := 7) rfl ?_); refine box_event ?hg (N := 7) ?hd (cs := #[.int .i64 0, .int .i64 0, .slice none 0 0]) (t := 46) ?hr ?_; (case hd => rfl); (case hg => rfl); (case hr => first | (go_simp; done) | (go_simp; rfl)); intro g7 hg w7 hbox hb; have GW_g7 := Aside0.mk ((by rw [hg]; exact below_size (by repeat (first | (with_reducible first | exact HB.out | apply below_alloc | apply pw_below_drewN | apply below_drew1) | exact HB.out))) : w.heap.size ≤ g7); have HL_g4_g7 := Aside0.mk (show g4 < g7 from by rw [hg]; exact blk_lt (o := .cells #[.int .i64 0, .int .i64 0, .slice none 0 0] 46 (0, 0)) (by (with_reducible repeat (first | refine blk_drewN ?_ _ | refine blk_drew ?_ | refine blk_alloc ?_ _)); exact BK_g4.out)); have HL_gR_g7 := Aside0.mk (show gR < g7 from by rw [hg]; exact blk_lt (o := .cells #[.string tx, .int .i64 at_, .int .i64 dp, .bool false] 85 (0, 0)) (by (with_reducible repeat (first | refine blk_drewN ?_ _ | refine blk_drew ?_ | refine blk_alloc ?_ _)); exact BK_gR.out)); have HE7 := Aside0.mk hg; have hn47 := (show g4 ≠ g7 from by have := HL_g4_g7.out; omega); have hnR7 := (show gR ≠ g7 from by have := HL_gR_g7.out; omega); have hn47' := Ne.symm hn47; have hnR7' := Ne.symm hnR7; clear hg; have BK_g7 := Aside0.mk hbox; clear hbox; have nb_ := Aside0.mk (below_step (by repeat (first | (with_reducible first | exact HB.out | apply below_alloc | apply pw_below_drewN | apply below_drew1) | exact HB.out)) hb); have n0_ := Aside0.mk (blk_below (g := g4) (o := .cells #[.int .i64 0, .int .i64 0, .slice none 0 0] 46 (0, 0)) (by (with_reducible repeat (first | refine blk_drewN ?_ _ | refine blk_drew ?_ | refine blk_alloc ?_ _)); exact BK_g4.out) hb); have n1_ := Aside0.mk (blk_below (g := gR) (o := .cells #[.string tx, .int .i64 at_, .int .i64 dp, .bool false] 85 (0, 0)) (by (with_reducible repeat (first | refine blk_drewN ?_ _ | refine blk_drew ?_ | refine blk_alloc ?_ _)); exact BK_gR.out) hb); have m0_ := Aside0.mk (Kd.S_mono (Kd.S_old (by (with_reducible repeat (first | apply Kd.S_alloc | apply Kd.S_drewN | apply Kd.S_drew)); exact HSv.out) hb) (ok' := fun k_ => gR < k_ ∧ k_ < g7) (fun k_ hk_ => ⟨hk_.1, by have h2_ := hk_.2; have h3_ := HE7.out; (try simp only [World.drewN, World.drew] at h2_); rw [h3_]; exact h2_⟩)); clear HB hb; have HB := nb_; clear nb_; clear BK_g4 hz_g40 hz_g4f0 hz_g41 hz_g4f1 hz_g42 hz_g4f2; have BK_g4 := n0_; clear n0_; have hz_g40 : w7.cell? ⟨g4, 0, none⟩ = some (.int .i64 0) := (blk_cell BK_g4.out 0).trans rfl; have hz_g4f0 := blk_frozen BK_g4.out 0; have hz_g41 : w7.cell? ⟨g4, 1, none⟩ = some (.int .i64 0) := (blk_cell BK_g4.out 1).trans rfl; have hz_g4f1 := blk_frozen BK_g4.out 1; have hz_g42 : w7.cell? ⟨g4, 2, none⟩ = some (.slice none 0 0) := (blk_cell BK_g4.out 2).trans rfl; have hz_g4f2 := blk_frozen BK_g4.out 2; clear BK_gR hz_gR0 hz_gRf0 hz_gR1 hz_gRf1 hz_gR2 hz_gRf2 hz_gR3 hz_gRf3; have BK_gR := n1_; clear n1_; have hz_gR0 : w7.cell? ⟨gR, 0, none⟩ = some (.string tx) := (blk_cell BK_gR.out 0).trans rfl; have hz_gRf0 := blk_frozen BK_gR.out 0; have hz_gR1 : w7.cell? ⟨gR, 1, none⟩ = some (.int .i64 at_) := (blk_cell BK_gR.out 1).trans rfl; have hz_gRf1 := blk_frozen BK_gR.out 1; have hz_gR2 : w7.cell? ⟨gR, 2, none⟩ = some (.int .i64 dp) := (blk_cell BK_gR.out 2).trans rfl; have hz_gRf2 := blk_frozen BK_gR.out 2; have hz_gR3 : w7.cell? ⟨gR, 3, none⟩ = some (.bool false) := (blk_cell BK_gR.out 3).trans rfl; have hz_gRf3 := blk_frozen BK_gR.out 3; clear HSv; have HSv := m0_; clear m0_; have hz_g70 : w7.cell? ⟨g7, 0, none⟩ = some (.int .i64 0) := (blk_cell BK_g7.out 0).trans rfl; have hz_g7f0 := blk_frozen BK_g7.out 0; have hz_g71 : w7.cell? ⟨g7, 1, none⟩ = some (.int .i64 0) := (blk_cell BK_g7.out 1).trans rfl; have hz_g7f1 := blk_frozen BK_g7.out 1; have hz_g72 : w7.cell? ⟨g7, 2, none⟩ = some (.slice none 0 0) := (blk_cell BK_g7.out 2).trans rfl; have hz_g7f2 := blk_frozen BK_g7.out 2))
     refine bodyPost_ret (results_ct rfl _ _ g4 46 #[.int .i64 0, .int .i64 0, .slice none 0 0] (0, 0) _ rfl (by (with_reducible repeat (first | refine blk_drewN ?_ _ | refine blk_drew ?_ | refine blk_alloc ?_ _)); refine blk_put (cs := #[.int .i64 0, .int .i64 0, .slice none 0 0]) ?_ 2 _ rfl; (with_reducible repeat (first | refine blk_drewN ?_ _ | refine blk_drew ?_ | refine blk_alloc ?_ _)); refine blk_put (cs := #[.int .i64 0, .int .i64 0, .slice none 0 0]) ?_ 1 _ rfl; (with_reducible repeat (first | refine blk_drewN ?_ _ | refine blk_drew ?_ | refine blk_alloc ?_ _)); refine blk_put (cs := #[.int .i64 0, .int .i64 0, .slice none 0 0]) ?_ 0 _ rfl; (with_reducible repeat (first | refine blk_drewN ?_ _ | refine blk_drew ?_ | refine blk_alloc ?_ _)); refine blk_far ?_ hn47 _; refine blk_far ?_ hn47 _; refine blk_far ?_ hn47 _; exact BK_g4.out) Tryd.underlying46 rfl (by kernel_rfl)) rfl ?_
     exact ⟨_, rfl, Kd.S_nil _ _ _ _ _, (by repeat (first | (with_reducible first | exact HB.out | apply below_alloc | apply pw_below_drewN | apply below_drew1 | refine below_set ?_ GW_g4.out | refine below_set ?_ GW_g7.out) | exact HB.out))⟩
 ·replace c3 := Bool.eq_false_iff.mpr c3
  subst c3
  rw [if_neg (show ¬ (false = true) by decide)] at H
  simp only [Option.some.injEq, Prod.mk.injEq] at H
  obtain ⟨rfl, rfl, rfl, rfl⟩ := H
  go_enter Tryd.func24, Tryd.ntmps24
  go_wp2_with (first | ((with_reducible refine gate_dst (N := 4) rfl ?_); refine box_event ?hg (N := 4) ?hd (cs := #[.int .i64 0, .int .i64 0, .slice none 0 0]) (t := 46) ?hr ?_; (case hd => rfl); (case hg => rfl); (case hr => first | (go_simp; done) | (go_simp; rfl)); intro g4 hg w1 hbox hb; have GW_g4 := Aside0.mk ((by rw [hg]; exact below_size (by repeat (first | (with_reducible first | exact HB.out | apply below_alloc | apply pw_below_drewN | apply below_drew1) | exact HB.out))) : w.heap.size ≤ g4); clear hg; have BK_g4 := Aside0.mk hbox; clear hbox; have nb_ := Aside0.mk (below_step (by repeat (first | (with_reducible first | exact HB.out | apply below_alloc | apply pw_below_drewN | apply below_drew1) | exact HB.out)) hb); clear HB hb; have HB := nb_; clear nb_; have hz_g40 : w1.cell? ⟨g4, 0, none⟩ = some (.int .i64 0) := (blk_cell BK_g4.out 0).trans rfl; have hz_g4f0 := blk_frozen BK_g4.out 0; have hz_g41 : w1.cell? ⟨g4, 1, none⟩ = some (.int .i64 0) := (blk_cell BK_g4.out 1).trans rfl; have hz_g4f1 := blk_frozen BK_g4.out 1; have hz_g42 : w1.cell? ⟨g4, 2, none⟩ = some (.slice none 0 0) := (blk_cell BK_g4.out 2).trans rfl; have hz_g4f2 := blk_frozen BK_g4.out 2) | (go_at_call 55; (with_reducible refine (spec_l00In.calls a0 1 7 false _ A3.out).mono ?_); rintro e w5 ⟨rfl, ⟨nd5, rfl⟩⟩))
  refine bodyPost_ret (results_ct rfl _ _ g4 46 #[.int .i64 0, .int .i64 0, .slice none 0 0] (0, 0) _ rfl (by (with_reducible repeat (first | refine blk_drewN ?_ _ | refine blk_drew ?_ | refine blk_alloc ?_ _)); refine blk_put (cs := #[.int .i64 0, .int .i64 0, .slice none 0 0]) ?_ 2 _ rfl; (with_reducible repeat (first | refine blk_drewN ?_ _ | refine blk_drew ?_ | refine blk_alloc ?_ _)); refine blk_put (cs := #[.int .i64 0, .int .i64 0, .slice none 0 0]) ?_ 1 _ rfl; (with_reducible repeat (first | refine blk_drewN ?_ _ | refine blk_drew ?_ | refine blk_alloc ?_ _)); refine blk_put (cs := #[.int .i64 0, .int .i64 0, .slice none 0 0]) ?_ 0 _ rfl; (with_reducible repeat (first | refine blk_drewN ?_ _ | refine blk_drew ?_ | refine blk_alloc ?_ _)); exact BK_g4.out) Tryd.underlying46 rfl (by kernel_rfl)) rfl ?_
  exact ⟨_, rfl, Kd.S_nil _ _ _ _ _, (by repeat (first | (with_reducible first | exact HB.out | apply below_alloc | apply pw_below_drewN | apply below_drew1 | refine below_set ?_ GW_g4.out) | exact HB.out))⟩
def impl_within.f (a0 : Int) (a1 : Int) (a2 : Int) : Option (Bool) := if a0 ≥ a1 then (some (decide (a0 ≤ a2))) else (some false)
set_option maxHeartbeats 8000000 in
set_option maxRecDepth 100000 in
theorem impl_within.calls (a0 : Int) (a1 : Int) (a2 : Int) (r : Bool) (w : World) (h : impl_within.f a0 a1 a2 = some r) :
  Calls Tryd.prog 57 #[.int .i64 a0, .int .i64 a1, .int .i64 a2] w fun e w' => e = .returned (.bool r) ∧ Drawn0 w w' := by
 have H : (if a0 ≥ a1 then (some (decide (a0 ≤ a2))) else (some false)) = some r := h
 clear h
 by_cases c4 : a0 ≥ a1
 ·rw [if_pos c4] at H
  have c4b0 : decide (a1 ≤ a0) = true := decide_eq_true c4
  clear c4
  obtain rfl := Option.some.inj H
  go_enter Tryd.func57, Tryd.ntmps57
  go_wp2
  go_ret
  exact ⟨by first | rfl | (simp; done) | (simp [*]; done), by repeat (first | exact Drawn0.refl _ | apply Drawn0.step)⟩
 ·rw [if_neg c4] at H
  have c4b0 : decide (a1 ≤ a0) = false := decide_eq_false c4
  clear c4
  obtain rfl := Option.some.inj H
  go_enter Tryd.func57, Tryd.ntmps57
  go_wp2
  go_ret
  exact ⟨by first | rfl | (simp; done) | (simp [*]; done), by repeat (first | exact Drawn0.refl _ | apply Drawn0.step)⟩
def idxG.l0 : Nat → (S46 → Option Bool) → List S46 → Int → Option Int
 | 0, _, _, _ => none
 | k + 1, p, xs, i => if i < (xs.length : Int) then (if 0 ≤ i then ((p (rd_T46 xs i)).bind fun t => if t = true then (some i) else (idxG.l0 k p xs (wrap64 (i + 1)))) else none) else some (-1)
set_option maxHeartbeats 8000000 in
set_option maxRecDepth 100000 in
theorem idxG.calls (k : Nat) (p : S46 → Option Bool) (g : Nat) (lb : Array Value) (eg : ∀ args w, (callFunc g args).run Tryd.prog w = .ok (.enter g args) w) (A0 : Option Addr) (c0 : Nat) (l0 : List S46) (r : Int) (w : World)
  (hr0 : Kd.C k46 w A0 l0.length l0)
  (hp : ∀ (W : World) (x : S46) (A : Option Addr) (c : Nat) (b : Bool), p x = some b → Below w.heap.size w W → Kd.C k46 W A x.f2.length x.f2 → x.f2.length ≤ c → Calls Tryd.prog g (#[.agg #[.int .i64 x.f0, .int .i64 x.f1, .slice A x.f2.length c]] ++ lb) W fun e w' => e = .returned (.bool b) ∧ Below w.heap.size w w')
  (h : idxG.l0 k p l0 0 = some r) :
  Calls Tryd.prog 134 #[.slice A0 l0.length c0, .func (.func g) #[] lb] w fun e w' => e = .returned (.int .i64 r) ∧ Below w.heap.size w w' := by
 have HR0 := Aside0.mk hr0
 clear hr0
 have HP := Aside0.mk hp
 clear hp
 have HB := Aside0.mk (Below.refl w.heap.size w)
 have H' := Aside0.mk h
 clear h
 have hum := Tryd.underlying46
 go_enter Tryd.func134, Tryd.ntmps134
 go_wp2
 go_loopg [5, 8] k (fun kq _ v8 w' => ∃ (x8 : Int), v8 = .int .i64 x8 ∧ Aside0 (idxG.l0 kq p l0 x8 = some r) ∧ Aside0 (kq ≤ k) ∧ Aside0 (Below w.heap.size w w'))
 case atStart => exact ⟨0, rfl, H', ⟨Nat.le_refl _⟩, HB⟩
 case round =>
  clear H' HB
  obtain ⟨x8, rfl, HA, HK1, HB⟩ := hrel
  cases gk with
  | zero => exact absurd HA.out (by simp [idxG.l0])
  | succ k1 =>
   have H := HA.out
   clear HA
   simp only [idxG.l0] at H
   by_cases c6 : x8 < (l0.length : Int)
   ·rw [if_pos c6] at H
    have c6b0 : decide (x8 < (l0.length : Int)) = true := decide_eq_true c6
    clear c6
    by_cases c7 : 0 ≤ x8
    ·rw [if_pos c7] at H
     have c7b0 : decide (0 ≤ x8) = true := decide_eq_true c7
     clear c7
     replace H := Option.bind_eq_some_iff.mp H
     obtain ⟨t, At, H⟩ := H
     have A3 := Aside0.mk At
     clear At
     have p104 : 0 ≤ (x8 : Int) := of_decide_eq_true (by assumption)
     have q104 : x8 < (l0.length : Int) := of_decide_eq_true (by assumption)
     obtain ⟨ad104, Ae, ce, e104, hx104_0, hx104_1, hx104_2, hle, hre⟩ := at_T46 HR0.out x8 p104 q104
     cases e104
     have HE := Aside0.mk (Kd.C_below hre HB.out)
     have HL := Aside0.mk hle
     clear hre hle
     replace hx104_0 := (HB.out.cell (World.block_lt_of_cell? w _ hx104_0)).trans hx104_0
     replace hx104_1 := (HB.out.cell (World.block_lt_of_cell? w _ hx104_1)).trans hx104_1
     replace hx104_2 := (HB.out.cell (World.block_lt_of_cell? w _ hx104_2)).trans hx104_2
     replace p104 := eq_true p104
     replace q104 := eq_true q104
     cases t with
     | true =>
      rw [if_pos rfl] at H
      obtain rfl := Option.some.inj H
      go_wp2_with (go_at_fn g; refine (HP.out _ _ _ _ _ A3.out HB.out HE.out HL.out).mono ?_; rintro e w' ⟨rfl, hb'⟩)
      go_ret
      exact ⟨rfl, hb'⟩
     | false =>
      rw [if_neg (by decide)] at H
      have H' := Aside0.mk H
      clear H
      go_wp2_with (go_at_fn g; refine (HP.out _ _ _ _ _ A3.out HB.out HE.out HL.out).mono ?_; rintro e w' ⟨rfl, hb'⟩)
      go_roundg k1
      case measure => have := HK1.out; omega
      case rel => exact ⟨_, rfl, H', ⟨by have := HK1.out; omega⟩, ⟨hb'⟩⟩
    ·rw [if_neg c7] at H
     exact absurd H (by simp)
   ·rw [if_neg c6] at H
    have c6b0 : decide (x8 < (l0.length : Int)) = false := decide_eq_false c6
    clear c6
    obtain rfl := Option.some.inj H
    go_wp2
    go_ret
    exact ⟨rfl, HB.out⟩
theorem idxG.mono_l : ∀ k p xs i, LeO (idxG.l0 k p xs i) (idxG.l0 (k + 1) p xs i)
 | 0, _, _, _ => fun r h => by simp [idxG.l0] at h
 | k + 1, p, xs, i => by
  have ih := idxG.mono_l k
  unfold idxG.l0
  refine LeO.ite (LeO.ite (LeO.bind (LeO.refl _) (fun t => LeO.ite (LeO.refl _) (ih _ _ _))) (LeO.refl _)) (LeO.refl _)
theorem idxG.mono_p : ∀ k p p' xs i, (∀ x, LeO (p x) (p' x)) → LeO (idxG.l0 k p xs i) (idxG.l0 k p' xs i)
 | 0, _, _, _, _, _ => fun r h => by simp [idxG.l0] at h
 | k + 1, p, p', xs, i, hp => by
  have ih := idxG.mono_p k p p'
  unfold idxG.l0
  refine LeO.ite (LeO.ite (LeO.bind (hp _) (fun t => LeO.ite (LeO.refl _) (ih _ _ hp))) (LeO.refl _)) (LeO.refl _)
def hasG.f (k : Nat) (p : S46 → Option Bool) (xs : List S46) : Option Bool := (idxG.l0 k p xs 0).bind fun i => some (decide (0 ≤ i))
set_option maxHeartbeats 8000000 in
set_option maxRecDepth 100000 in
theorem hasG.calls (k : Nat) (p : S46 → Option Bool) (g : Nat) (lb : Array Value) (eg : ∀ args w, (callFunc g args).run Tryd.prog w = .ok (.enter g args) w) (A0 : Option Addr) (c0 : Nat) (l0 : List S46) (r : Bool) (w : World)
  (hr0 : Kd.C k46 w A0 l0.length l0)
  (hp : ∀ (W : World) (x : S46) (A : Option Addr) (c : Nat) (b : Bool), p x = some b → Below w.heap.size w W → Kd.C k46 W A x.f2.length x.f2 → x.f2.length ≤ c → Calls Tryd.prog g (#[.agg #[.int .i64 x.f0, .int .i64 x.f1, .slice A x.f2.length c]] ++ lb) W fun e w' => e = .returned (.bool b) ∧ Below w.heap.size w w')
  (h : hasG.f k p l0 = some r) :
  Calls Tryd.prog 113 #[.slice A0 l0.length c0, .func (.func g) #[] lb] w fun e w' => e = .returned (.bool r) ∧ Below w.heap.size w w' := by
 have H := h
 unfold hasG.f at H
 replace H := Option.bind_eq_some_iff.mp H
 obtain ⟨i, Ai, H⟩ := H
 obtain rfl := Option.some.inj H
 have A3 := Aside0.mk Ai
 clear Ai h H
 have HP := Aside0.mk hp
 clear hp
 have HR0 := Aside0.mk hr0
 clear hr0
 go_enter Tryd.func113, Tryd.ntmps113
 go_wp2_with (first | ((with_reducible refine gate_callee (f := 134) rfl ?_); refine goesL_ (some 7) rfl rfl Tryd.func134 (by kernel_rfl) rfl #[.slice A0 l0.length c0, .func (.func g) #[] lb] rfl (by (try simp only [List.map_toArray, List.map_cons, List.map_nil]); first | done | rfl) ?_; (with_reducible refine (idxG.calls k p g lb eg _ _ l0 i _ ?side1 ?side2 A3.out).mono ?_); (case side1 => exact HR0.out); (case side2 => exact HP.out); rintro e w' ⟨rfl, hb⟩; refine ⟨_, rfl, ?_⟩))
 go_ret
 exact ⟨rfl, hb⟩
theorem hasG.mono : ∀ p xs k, LeO (hasG.f k p xs) (hasG.f (k + 1) p xs) := fun p xs k => by
 unfold hasG.f
 exact LeO.bind (idxG.mono_l _ _ _ _) (fun _ => LeO.refl _)
def impl_Gate_isLeaf.f (a0_0 : Int) (a0_1 : Int) (l0_2 : List (S46)) : Option (Bool) := some ((l0_2.length : Int) == 0)
set_option maxHeartbeats 8000000 in
set_option maxRecDepth 100000 in
theorem impl_Gate_isLeaf.calls (a0_0 : Int) (a0_1 : Int) (A0_2 : Option Addr) (c0_2 : Nat) (l0_2 : List (S46)) (r : Bool) (w : World) (hr0_2 : Kd.C k46 w A0_2 l0_2.length l0_2) (hc0_2 : l0_2.length ≤ c0_2) (h : impl_Gate_isLeaf.f a0_0 a0_1 l0_2 = some r) :
  Calls Tryd.prog 94 #[.agg #[.int .i64 a0_0, .int .i64 a0_1, .slice A0_2 l0_2.length c0_2]] w fun e w' => e = .returned (.bool r) ∧ Below w.heap.size w w' := by
 have hu46 := Tryd.underlying46
 have HR0_2 := Aside0.mk hr0_2
 have HC0_2 := Aside0.mk hc0_2
 clear hr0_2 hc0_2
 have HB := Aside0.mk (Below.refl w.heap.size w)
 have H : (some ((l0_2.length : Int) == 0)) = some r := h
 clear h
 obtain rfl := Option.some.inj H
 go_enter Tryd.func94, Tryd.ntmps94
 go_wp2_with (first | ((with_reducible refine gate_dst (N := 1) rfl ?_); refine box_event ?hg (N := 1) ?hd (cs := #[.int .i64 a0_0, .int .i64 a0_1, .slice A0_2 l0_2.length c0_2]) (t := 46) ?hr ?_; (case hd => rfl); (case hg => rfl); (case hr => first | (go_simp; done) | (go_simp; rfl)); intro gb275 hg w2 hbox hb; have n0_ := Aside0.mk (below_step (by repeat (first | (with_reducible first | exact HB.out | apply below_alloc | apply pw_below_drewN | apply below_drew1) | exact HB.out)) hb); have n1_ := Aside0.mk (hbox); have n2_ := Aside0.mk ((by rw [hg]; exact (below_size (by repeat (first | (with_reducible first | exact HB.out | apply below_alloc | apply pw_below_drewN | apply below_drew1) | exact HB.out))) : w.heap.size ≤ gb275)); have n3_ := Aside0.mk ((by rw [hg]; exact (below_size (by repeat (first | (with_reducible first | exact HB.out | apply below_alloc | apply pw_below_drewN | apply below_drew1) | exact HB.out))) : w.heap.size ≤ gb275)); clear HB; have HB := n0_; have BK275 := n1_; have GW275 := n2_; have GE275 := n3_; clear n0_ n1_ n2_ n3_; clear hb hbox hg; have hcz3_0 : w2.cell? ⟨gb275, 0, none⟩ = some (.int .i64 a0_0) := (blk_cell BK275.out 0).trans rfl; have hcz3_1 : w2.cell? ⟨gb275, 1, none⟩ = some (.int .i64 a0_1) := (blk_cell BK275.out 1).trans rfl; have hcz3_2 : w2.cell? ⟨gb275, 2, none⟩ = some (.slice A0_2 l0_2.length c0_2) := (blk_cell BK275.out 2).trans rfl; have hfz3_0 := blk_frozen BK275.out 0; have hfz3_1 := blk_frozen BK275.out 1; have hfz3_2 := blk_frozen BK275.out 2))
 go_ret
 exact ⟨by first | rfl | (simp [errW_none, errW_some] <;> rfl) | (simp [*, errW_none, errW_some] <;> rfl), by repeat (first | (with_reducible first | exact HB.out | apply below_alloc | apply pw_below_drewN | apply below_drew1 | refine below_set ?_ GE275.out) | exact HB.out)⟩
theorem blk_new_at {W : World} {o : Obj} {g : Nat} (h : g = W.heap.size) : (W.alloc o).heap[g]? = some o := by rw [h]; exact blk_new W o
theorem calls_as {P : Program} {f : Nat} {us vs : Array Value} {w : World} {Q : Ending → World → Prop} (e : us = vs) (h : Calls P f us w Q) : Calls P f vs w Q := e ▸ h
def impl_Gate_isFormed.f : Nat → Int → Int → List S46 → Int → Int → Option Bool
 | 0, _, _, _, _, _ => none
 | k + 1, a, b, l, h, d => if d = 0 then some false else (if (l.length : Int) = 0 then ((impl_within.f a 0 (wrap64 (h - 1))).bind fun t => if t = true then some ((b : Int) == 0) else some false) else (if a = -1 then ((impl_within.f b 1 (l.length : Int)).bind fun u => if u = true then ((hasG.f k (fun x => (impl_Gate_isFormed.f k x.f0 x.f1 x.f2 h (wrap64 (d - 1))).bind fun t => some (!t)) l).bind fun v => some (!v)) else some false) else some false))
theorem idxG.mono_k (p p' : S46 → Option Bool) (hp : ∀ x, LeO (p x) (p' x)) : ∀ k xs, LeO (hasG.f k p xs) (hasG.f (k + 1) p' xs) := fun k xs => (hasG.mono p xs k).trans (LeO.bind (idxG.mono_p _ _ _ _ _ hp) (fun _ => LeO.refl _))
theorem impl_Gate_isFormed.mono_l : ∀ k a b l h d, LeO (impl_Gate_isFormed.f k a b l h d) (impl_Gate_isFormed.f (k + 1) a b l h d)
 | 0, _, _, _, _, _ => fun r h => by simp [impl_Gate_isFormed.f] at h
 | k + 1, a, b, l, h, d => by
  have ih := impl_Gate_isFormed.mono_l k
  unfold impl_Gate_isFormed.f
  exact LeO.ite (LeO.refl _) (LeO.ite (LeO.refl _) (LeO.ite (LeO.bind (LeO.refl _) (fun _ => LeO.ite (LeO.bind (idxG.mono_k _ _ (fun x => LeO.bind (ih _ _ _ _ _) (fun _ => LeO.refl _)) _ _) (fun _ => LeO.refl _)) (LeO.refl _))) (LeO.refl _)))
set_option maxHeartbeats 8000000 in
set_option maxRecDepth 100000 in
theorem isFormed_c.calls (k : Nat) (IH : ∀ (a0_0 : Int) (a0_1 : Int) (A0_2 : Option Addr) (c0_2 : Nat) (l0_2 : List S46) (a1 : Int) (a2 : Int) (r : Bool) (w : World) (hr0_2 : Kd.C k46 w A0_2 l0_2.length l0_2) (hc0_2 : l0_2.length ≤ c0_2) (h : impl_Gate_isFormed.f k a0_0 a0_1 l0_2 a1 a2 = some r), Calls Tryd.prog 92 #[.agg #[.int .i64 a0_0, .int .i64 a0_1, .slice A0_2 l0_2.length c0_2], .int .i64 a1, .int .i64 a2] w fun e w' => e = .returned (.bool r) ∧ Below w.heap.size w w') (h : Int) (d : Int) (B1 B2 : Nat) (x : S46) (A : Option Addr) (c : Nat) (b : Bool) (W : World) (hc1 : W.cell? ⟨B1, 0, none⟩ = some (.int .i64 h)) (hc2 : W.cell? ⟨B2, 0, none⟩ = some (.int .i64 d)) (hr : Kd.C k46 W A x.f2.length x.f2) (hc : x.f2.length ≤ c) (hh : ((impl_Gate_isFormed.f k x.f0 x.f1 x.f2 h (wrap64 (d - 1))).bind fun t => some (!t)) = some b) :
  Calls Tryd.prog 114 #[.agg #[.int .i64 x.f0, .int .i64 x.f1, .slice A x.f2.length c], .pointer (some ⟨B1, 0, none⟩), .pointer (some ⟨B2, 0, none⟩)] W fun e w' => e = .returned (.bool b) ∧ Below W.heap.size W w' := by
 have hum := Tryd.underlying46
 replace hh := Option.bind_eq_some_iff.mp hh
 obtain ⟨t, At, H⟩ := hh
 obtain rfl := Option.some.inj H
 have A3 := Aside0.mk At
 have HR := Aside0.mk hr
 have HC := Aside0.mk hc
 clear At H hr hc
 have z1 := ((below_alloc (Below.refl W.heap.size W) (.cells #[.int .i64 x.f0, .int .i64 x.f1, .slice A x.f2.length c] 46 (0, 0))).cell (World.block_lt_of_cell? W _ hc1)).trans hc1
 have z2 := ((below_alloc (Below.refl W.heap.size W) (.cells #[.int .i64 x.f0, .int .i64 x.f1, .slice A x.f2.length c] 46 (0, 0))).cell (World.block_lt_of_cell? W _ hc2)).trans hc2
 go_enter Tryd.func114, Tryd.ntmps114
 go_wp2_with (first | (go_at_call 92; (with_reducible refine (IH x.f0 x.f1 _ _ x.f2 h (wrap64 (d - 1)) t _ ?side1 ?side2 A3.out).mono ?_); (case side1 => exact (by repeat (first | exact HR.out | (with_reducible refine Kd.C_alloc ?_ _) | (with_reducible refine Kd.C_drewN ?_ _) | (with_reducible refine Kd.C_drew ?_)))); (case side2 => exact HC.out); rintro e w' ⟨rfl, hb⟩))
 go_ret
 exact ⟨rfl, below_step (by repeat (first | exact Below.refl _ _ | apply below_alloc | apply pw_below_drewN | apply below_drew1)) hb⟩
set_option maxHeartbeats 8000000 in
set_option maxRecDepth 100000 in
theorem impl_Gate_isFormed.calls (k : Nat) : ∀ (a0_0 : Int) (a0_1 : Int) (A0_2 : Option Addr) (c0_2 : Nat) (l0_2 : List S46) (a1 : Int) (a2 : Int) (r : Bool) (w : World) (hr0_2 : Kd.C k46 w A0_2 l0_2.length l0_2) (hc0_2 : l0_2.length ≤ c0_2) (h : impl_Gate_isFormed.f k a0_0 a0_1 l0_2 a1 a2 = some r),
  Calls Tryd.prog 92 #[.agg #[.int .i64 a0_0, .int .i64 a0_1, .slice A0_2 l0_2.length c0_2], .int .i64 a1, .int .i64 a2] w fun e w' => e = .returned (.bool r) ∧ Below w.heap.size w w' := by
 induction k with
 | zero => intro a0_0 a0_1 A0_2 c0_2 l0_2 a1 a2 r w hr0_2 hc0_2 h; exact absurd h (by simp [impl_Gate_isFormed.f])
 | succ k ih =>
 intro a0_0 a0_1 A0_2 c0_2 l0_2 a1 a2 r w hr0_2 hc0_2 h
 simp only [impl_Gate_isFormed.f] at h
 have IH := Aside0.mk ih
 clear ih
 have HR := Aside0.mk hr0_2
 have HC := Aside0.mk hc0_2
 clear hr0_2 hc0_2
 have hum := Tryd.underlying46
 have eg : ∀ (args : Array Value) (w : World), (callFunc 114 args).run Tryd.prog w = .ok (.enter 114 args) w := enters_of Tryd.func114 (by kernel_rfl) rfl
 by_cases c1 : a2 = 0
 ·rw [if_pos c1] at h
  have c1b0 : ((a2 : Int) == 0) = true := beq_iff_eq.mpr c1
  have c1b1 : ((a2 : Int) != 0) = false := bne_eq_false_iff_eq.mpr c1
  clear c1
  obtain rfl := Option.some.inj h
  clear h
  go_enter Tryd.func92, Tryd.ntmps92
  go_wp2
  go_ret
  exact ⟨rfl, (by repeat (first | exact Below.refl _ _ | apply below_alloc | apply pw_below_drewN | apply below_drew1))⟩
 ·rw [if_neg c1] at h
  have c1b0 : ((a2 : Int) == 0) = false := beq_eq_false_iff_ne.mpr c1
  have c1b1 : ((a2 : Int) != 0) = true := bne_iff_ne.mpr c1
  clear c1
  by_cases c2 : (l0_2.length : Int) = 0
  ·rw [if_pos c2] at h
   have c2b0 : (((l0_2.length : Int) : Int) == 0) = true := beq_iff_eq.mpr c2
   have c2b1 : (((l0_2.length : Int) : Int) != 0) = false := bne_eq_false_iff_eq.mpr c2
   have A0 : Aside0 (impl_Gate_isLeaf.f a0_0 a0_1 l0_2 = some true) := ⟨by unfold impl_Gate_isLeaf.f; rw [c2b0]⟩
   clear c2 c2b0 c2b1
   replace h := Option.bind_eq_some_iff.mp h
   obtain ⟨t, At, h⟩ := h
   have A1 := Aside0.mk At
   clear At
   cases t with
   | true =>
    rw [if_pos rfl] at h
    obtain rfl := Option.some.inj h
    clear h
    go_enter Tryd.func92, Tryd.ntmps92
    go_wp2_with (first | (go_at_call 94; (with_reducible refine (impl_Gate_isLeaf.calls a0_0 a0_1 _ _ l0_2 _ _ ?side1 ?side2 A0.out).mono ?_); (case side1 => exact (by repeat (first | exact HR.out | (with_reducible refine Kd.C_alloc ?_ _) | (with_reducible refine Kd.C_drewN ?_ _) | (with_reducible refine Kd.C_drew ?_)))); (case side2 => exact HC.out); rintro e w1 ⟨rfl, hb⟩; have n1_ := Aside0.mk (blk_below (g := w.heap.size) (o := .cells #[.int .i64 a0_0, .int .i64 a0_1, .slice A0_2 l0_2.length c0_2] 46 (0, 0)) (by repeat (first | exact blk_new_at (by simp) | (with_reducible refine blk_drewN ?_ _) | (with_reducible refine blk_drew ?_) | (with_reducible refine blk_alloc ?_ _))) hb); have n2_ := Aside0.mk (blk_below (g := w.heap.size + 1) (o := .cells #[.int .i64 a1] 2 (0, 0)) (by repeat (first | exact blk_new_at (by simp) | (with_reducible refine blk_drewN ?_ _) | (with_reducible refine blk_drew ?_) | (with_reducible refine blk_alloc ?_ _))) hb); have n3_ := Aside0.mk (blk_below (g := w.heap.size + 2) (o := .cells #[.int .i64 a2] 3 (0, 0)) (by repeat (first | exact blk_new_at (by simp) | (with_reducible refine blk_drewN ?_ _) | (with_reducible refine blk_drew ?_) | (with_reducible refine blk_alloc ?_ _))) hb); have n9_ : Aside0 (Below w.heap.size w w1) := Aside0.mk (below_step (by repeat (first | exact Below.refl _ _ | apply below_alloc | apply pw_below_drewN | apply below_drew1)) hb); clear hb; have hl1 : w.heap.size + 2 < w1.heap.size := blk_lt n3_.out; have hx0 : w1.cell? ⟨w.heap.size, 0, none⟩ = some (.int .i64 a0_0) := (blk_cell n1_.out 0).trans rfl; have hx1 : w1.cell? ⟨w.heap.size, 1, none⟩ = some (.int .i64 a0_1) := (blk_cell n1_.out 1).trans rfl; have hx2 : w1.cell? ⟨w.heap.size, 2, none⟩ = some (.slice A0_2 l0_2.length c0_2) := (blk_cell n1_.out 2).trans rfl; have hy0 : w1.cell? ⟨w.heap.size + 1, 0, none⟩ = some (.int .i64 a1) := (blk_cell n2_.out 0).trans rfl; have hz0 : w1.cell? ⟨w.heap.size + 2, 0, none⟩ = some (.int .i64 a2) := (blk_cell n3_.out 0).trans rfl) | (go_at_call 57; (with_reducible refine (impl_within.calls a0_0 0 (wrap64 (a1 - 1)) true _ A1.out).mono ?_); rintro e w' ⟨rfl, ⟨nd, rfl⟩⟩))
    go_ret
    exact ⟨(by first | rfl | (simp; done) | (simp [*]; done)), (by repeat (first | exact n9_.out | apply below_alloc | apply pw_below_drewN | apply below_drew1))⟩
   | false =>
    rw [if_neg (by decide)] at h
    obtain rfl := Option.some.inj h
    clear h
    go_enter Tryd.func92, Tryd.ntmps92
    go_wp2_with (first | (go_at_call 94; (with_reducible refine (impl_Gate_isLeaf.calls a0_0 a0_1 _ _ l0_2 _ _ ?side1 ?side2 A0.out).mono ?_); (case side1 => exact (by repeat (first | exact HR.out | (with_reducible refine Kd.C_alloc ?_ _) | (with_reducible refine Kd.C_drewN ?_ _) | (with_reducible refine Kd.C_drew ?_)))); (case side2 => exact HC.out); rintro e w1 ⟨rfl, hb⟩; have n1_ := Aside0.mk (blk_below (g := w.heap.size) (o := .cells #[.int .i64 a0_0, .int .i64 a0_1, .slice A0_2 l0_2.length c0_2] 46 (0, 0)) (by repeat (first | exact blk_new_at (by simp) | (with_reducible refine blk_drewN ?_ _) | (with_reducible refine blk_drew ?_) | (with_reducible refine blk_alloc ?_ _))) hb); have n2_ := Aside0.mk (blk_below (g := w.heap.size + 1) (o := .cells #[.int .i64 a1] 2 (0, 0)) (by repeat (first | exact blk_new_at (by simp) | (with_reducible refine blk_drewN ?_ _) | (with_reducible refine blk_drew ?_) | (with_reducible refine blk_alloc ?_ _))) hb); have n3_ := Aside0.mk (blk_below (g := w.heap.size + 2) (o := .cells #[.int .i64 a2] 3 (0, 0)) (by repeat (first | exact blk_new_at (by simp) | (with_reducible refine blk_drewN ?_ _) | (with_reducible refine blk_drew ?_) | (with_reducible refine blk_alloc ?_ _))) hb); have n9_ : Aside0 (Below w.heap.size w w1) := Aside0.mk (below_step (by repeat (first | exact Below.refl _ _ | apply below_alloc | apply pw_below_drewN | apply below_drew1)) hb); clear hb; have hl1 : w.heap.size + 2 < w1.heap.size := blk_lt n3_.out; have hx0 : w1.cell? ⟨w.heap.size, 0, none⟩ = some (.int .i64 a0_0) := (blk_cell n1_.out 0).trans rfl; have hx1 : w1.cell? ⟨w.heap.size, 1, none⟩ = some (.int .i64 a0_1) := (blk_cell n1_.out 1).trans rfl; have hx2 : w1.cell? ⟨w.heap.size, 2, none⟩ = some (.slice A0_2 l0_2.length c0_2) := (blk_cell n1_.out 2).trans rfl; have hy0 : w1.cell? ⟨w.heap.size + 1, 0, none⟩ = some (.int .i64 a1) := (blk_cell n2_.out 0).trans rfl; have hz0 : w1.cell? ⟨w.heap.size + 2, 0, none⟩ = some (.int .i64 a2) := (blk_cell n3_.out 0).trans rfl) | (go_at_call 57; (with_reducible refine (impl_within.calls a0_0 0 (wrap64 (a1 - 1)) false _ A1.out).mono ?_); rintro e w' ⟨rfl, ⟨nd, rfl⟩⟩))
    go_ret
    exact ⟨(by first | rfl | (simp; done) | (simp [*]; done)), (by repeat (first | exact n9_.out | apply below_alloc | apply pw_below_drewN | apply below_drew1))⟩
  ·rw [if_neg c2] at h
   have c2b0 : (((l0_2.length : Int) : Int) == 0) = false := beq_eq_false_iff_ne.mpr c2
   have c2b1 : (((l0_2.length : Int) : Int) != 0) = true := bne_iff_ne.mpr c2
   have A0 : Aside0 (impl_Gate_isLeaf.f a0_0 a0_1 l0_2 = some false) := ⟨by unfold impl_Gate_isLeaf.f; rw [c2b0]⟩
   clear c2 c2b0 c2b1
   by_cases c3 : a0_0 = -1
   ·rw [if_pos c3] at h
    have c3b0 : ((a0_0 : Int) == -1) = true := beq_iff_eq.mpr c3
    have c3b1 : ((a0_0 : Int) != -1) = false := bne_eq_false_iff_eq.mpr c3
    clear c3
    replace h := Option.bind_eq_some_iff.mp h
    obtain ⟨u, Au, h⟩ := h
    have A1 := Aside0.mk Au
    clear Au
    cases u with
    | true =>
     rw [if_pos rfl] at h
     replace h := Option.bind_eq_some_iff.mp h
     obtain ⟨v, Av, h⟩ := h
     have A2 := Aside0.mk Av
     clear Av
     obtain rfl := Option.some.inj h
     clear h
     go_enter Tryd.func92, Tryd.ntmps92
     go_wp2_with (first | (go_at_call 94; (with_reducible refine (impl_Gate_isLeaf.calls a0_0 a0_1 _ _ l0_2 _ _ ?side1 ?side2 A0.out).mono ?_); (case side1 => exact (by repeat (first | exact HR.out | (with_reducible refine Kd.C_alloc ?_ _) | (with_reducible refine Kd.C_drewN ?_ _) | (with_reducible refine Kd.C_drew ?_)))); (case side2 => exact HC.out); rintro e w1 ⟨rfl, hb⟩; have n1_ := Aside0.mk (blk_below (g := w.heap.size) (o := .cells #[.int .i64 a0_0, .int .i64 a0_1, .slice A0_2 l0_2.length c0_2] 46 (0, 0)) (by repeat (first | exact blk_new_at (by simp) | (with_reducible refine blk_drewN ?_ _) | (with_reducible refine blk_drew ?_) | (with_reducible refine blk_alloc ?_ _))) hb); have n2_ := Aside0.mk (blk_below (g := w.heap.size + 1) (o := .cells #[.int .i64 a1] 2 (0, 0)) (by repeat (first | exact blk_new_at (by simp) | (with_reducible refine blk_drewN ?_ _) | (with_reducible refine blk_drew ?_) | (with_reducible refine blk_alloc ?_ _))) hb); have n3_ := Aside0.mk (blk_below (g := w.heap.size + 2) (o := .cells #[.int .i64 a2] 3 (0, 0)) (by repeat (first | exact blk_new_at (by simp) | (with_reducible refine blk_drewN ?_ _) | (with_reducible refine blk_drew ?_) | (with_reducible refine blk_alloc ?_ _))) hb); have n9_ : Aside0 (Below w.heap.size w w1) := Aside0.mk (below_step (by repeat (first | exact Below.refl _ _ | apply below_alloc | apply pw_below_drewN | apply below_drew1)) hb); clear hb; have hl1 : w.heap.size + 2 < w1.heap.size := blk_lt n3_.out; have hx0 : w1.cell? ⟨w.heap.size, 0, none⟩ = some (.int .i64 a0_0) := (blk_cell n1_.out 0).trans rfl; have hx1 : w1.cell? ⟨w.heap.size, 1, none⟩ = some (.int .i64 a0_1) := (blk_cell n1_.out 1).trans rfl; have hx2 : w1.cell? ⟨w.heap.size, 2, none⟩ = some (.slice A0_2 l0_2.length c0_2) := (blk_cell n1_.out 2).trans rfl; have hy0 : w1.cell? ⟨w.heap.size + 1, 0, none⟩ = some (.int .i64 a1) := (blk_cell n2_.out 0).trans rfl; have hz0 : w1.cell? ⟨w.heap.size + 2, 0, none⟩ = some (.int .i64 a2) := (blk_cell n3_.out 0).trans rfl) | (go_at_call 57; (with_reducible refine (impl_within.calls a0_1 1 (l0_2.length : Int) true _ A1.out).mono ?_); rintro e w' ⟨rfl, ⟨nd, rfl⟩⟩) | (go_at_call 113; (with_reducible refine (hasG.calls k (fun x => (impl_Gate_isFormed.f k x.f0 x.f1 x.f2 a1 (wrap64 (a2 - 1))).bind fun t => some (!t)) 114 #[.pointer (some ⟨w.heap.size + 1, 0, none⟩), .pointer (some ⟨w.heap.size + 2, 0, none⟩)] eg _ _ l0_2 v _ ?side1 ?side2 A2.out).mono ?_); (case side1 => exact Kd.C_below HR.out (by repeat (first | exact n9_.out | apply below_alloc | apply pw_below_drewN | apply below_drew1))); (case side2 => exact fun W x A c b hx hb hr hc => (isFormed_c.calls k IH.out a1 a2 (w.heap.size + 1) (w.heap.size + 2) x A c b W ((hb.cell (p := ⟨w.heap.size + 1, 0, none⟩) (by simp; omega)).trans ((by first | exact hy0 | simpa using hy0))) ((hb.cell (p := ⟨w.heap.size + 2, 0, none⟩) (by simp; omega)).trans ((by first | exact hz0 | simpa using hz0))) hr hc hx).mono (fun e w' ⟨he, hd⟩ => ⟨he, below_step hb hd⟩)); rintro e w2 ⟨rfl, hb⟩))
     go_ret
     exact ⟨rfl, below_step (by repeat (first | exact n9_.out | apply below_alloc | apply pw_below_drewN | apply below_drew1)) hb⟩
    | false =>
     rw [if_neg (by decide)] at h
     obtain rfl := Option.some.inj h
     clear h
     go_enter Tryd.func92, Tryd.ntmps92
     go_wp2_with (first | (go_at_call 94; (with_reducible refine (impl_Gate_isLeaf.calls a0_0 a0_1 _ _ l0_2 _ _ ?side1 ?side2 A0.out).mono ?_); (case side1 => exact (by repeat (first | exact HR.out | (with_reducible refine Kd.C_alloc ?_ _) | (with_reducible refine Kd.C_drewN ?_ _) | (with_reducible refine Kd.C_drew ?_)))); (case side2 => exact HC.out); rintro e w1 ⟨rfl, hb⟩; have n1_ := Aside0.mk (blk_below (g := w.heap.size) (o := .cells #[.int .i64 a0_0, .int .i64 a0_1, .slice A0_2 l0_2.length c0_2] 46 (0, 0)) (by repeat (first | exact blk_new_at (by simp) | (with_reducible refine blk_drewN ?_ _) | (with_reducible refine blk_drew ?_) | (with_reducible refine blk_alloc ?_ _))) hb); have n2_ := Aside0.mk (blk_below (g := w.heap.size + 1) (o := .cells #[.int .i64 a1] 2 (0, 0)) (by repeat (first | exact blk_new_at (by simp) | (with_reducible refine blk_drewN ?_ _) | (with_reducible refine blk_drew ?_) | (with_reducible refine blk_alloc ?_ _))) hb); have n3_ := Aside0.mk (blk_below (g := w.heap.size + 2) (o := .cells #[.int .i64 a2] 3 (0, 0)) (by repeat (first | exact blk_new_at (by simp) | (with_reducible refine blk_drewN ?_ _) | (with_reducible refine blk_drew ?_) | (with_reducible refine blk_alloc ?_ _))) hb); have n9_ : Aside0 (Below w.heap.size w w1) := Aside0.mk (below_step (by repeat (first | exact Below.refl _ _ | apply below_alloc | apply pw_below_drewN | apply below_drew1)) hb); clear hb; have hl1 : w.heap.size + 2 < w1.heap.size := blk_lt n3_.out; have hx0 : w1.cell? ⟨w.heap.size, 0, none⟩ = some (.int .i64 a0_0) := (blk_cell n1_.out 0).trans rfl; have hx1 : w1.cell? ⟨w.heap.size, 1, none⟩ = some (.int .i64 a0_1) := (blk_cell n1_.out 1).trans rfl; have hx2 : w1.cell? ⟨w.heap.size, 2, none⟩ = some (.slice A0_2 l0_2.length c0_2) := (blk_cell n1_.out 2).trans rfl; have hy0 : w1.cell? ⟨w.heap.size + 1, 0, none⟩ = some (.int .i64 a1) := (blk_cell n2_.out 0).trans rfl; have hz0 : w1.cell? ⟨w.heap.size + 2, 0, none⟩ = some (.int .i64 a2) := (blk_cell n3_.out 0).trans rfl) | (go_at_call 57; (with_reducible refine (impl_within.calls a0_1 1 (l0_2.length : Int) false _ A1.out).mono ?_); rintro e w' ⟨rfl, ⟨nd, rfl⟩⟩))
     go_ret
     exact ⟨(by first | rfl | (simp; done) | (simp [*]; done)), (by repeat (first | exact n9_.out | apply below_alloc | apply pw_below_drewN | apply below_drew1))⟩
   ·rw [if_neg c3] at h
    have c3b0 : ((a0_0 : Int) == -1) = false := beq_eq_false_iff_ne.mpr c3
    have c3b1 : ((a0_0 : Int) != -1) = true := bne_iff_ne.mpr c3
    clear c3
    obtain rfl := Option.some.inj h
    clear h
    go_enter Tryd.func92, Tryd.ntmps92
    go_wp2_with (first | (go_at_call 94; (with_reducible refine (impl_Gate_isLeaf.calls a0_0 a0_1 _ _ l0_2 _ _ ?side1 ?side2 A0.out).mono ?_); (case side1 => exact (by repeat (first | exact HR.out | (with_reducible refine Kd.C_alloc ?_ _) | (with_reducible refine Kd.C_drewN ?_ _) | (with_reducible refine Kd.C_drew ?_)))); (case side2 => exact HC.out); rintro e w1 ⟨rfl, hb⟩; have n1_ := Aside0.mk (blk_below (g := w.heap.size) (o := .cells #[.int .i64 a0_0, .int .i64 a0_1, .slice A0_2 l0_2.length c0_2] 46 (0, 0)) (by repeat (first | exact blk_new_at (by simp) | (with_reducible refine blk_drewN ?_ _) | (with_reducible refine blk_drew ?_) | (with_reducible refine blk_alloc ?_ _))) hb); have n2_ := Aside0.mk (blk_below (g := w.heap.size + 1) (o := .cells #[.int .i64 a1] 2 (0, 0)) (by repeat (first | exact blk_new_at (by simp) | (with_reducible refine blk_drewN ?_ _) | (with_reducible refine blk_drew ?_) | (with_reducible refine blk_alloc ?_ _))) hb); have n3_ := Aside0.mk (blk_below (g := w.heap.size + 2) (o := .cells #[.int .i64 a2] 3 (0, 0)) (by repeat (first | exact blk_new_at (by simp) | (with_reducible refine blk_drewN ?_ _) | (with_reducible refine blk_drew ?_) | (with_reducible refine blk_alloc ?_ _))) hb); have n9_ : Aside0 (Below w.heap.size w w1) := Aside0.mk (below_step (by repeat (first | exact Below.refl _ _ | apply below_alloc | apply pw_below_drewN | apply below_drew1)) hb); clear hb; have hl1 : w.heap.size + 2 < w1.heap.size := blk_lt n3_.out; have hx0 : w1.cell? ⟨w.heap.size, 0, none⟩ = some (.int .i64 a0_0) := (blk_cell n1_.out 0).trans rfl; have hx1 : w1.cell? ⟨w.heap.size, 1, none⟩ = some (.int .i64 a0_1) := (blk_cell n1_.out 1).trans rfl; have hx2 : w1.cell? ⟨w.heap.size, 2, none⟩ = some (.slice A0_2 l0_2.length c0_2) := (blk_cell n1_.out 2).trans rfl; have hy0 : w1.cell? ⟨w.heap.size + 1, 0, none⟩ = some (.int .i64 a1) := (blk_cell n2_.out 0).trans rfl; have hz0 : w1.cell? ⟨w.heap.size + 2, 0, none⟩ = some (.int .i64 a2) := (blk_cell n3_.out 0).trans rfl))
    go_ret
    exact ⟨(by first | rfl | (simp; done) | (simp [*]; done)), (by repeat (first | exact n9_.out | apply below_alloc | apply pw_below_drewN | apply below_drew1))⟩
mutual
def impl_GateSize.l0 : Nat → Int → List (S46) → Int → Int → Option (Int)
 | 0, _, _, _, _ => none
 | k + 1, x3, x7, x8, x9 => if x9 < x8 then (if 0 ≤ x9 then (if x9 < (x7.length : Int) then ((impl_GateSize.f k ((rd_T46 x7 x9).f0) ((rd_T46 x7 x9).f1) ((rd_T46 x7 x9).f2)).bind fun t279 => (impl_GateSize.l0 k (wrap64 (x3 + t279)) x7 x8 (wrap64 (x9 + 1)))) else (none)) else (none)) else (some x3)
def impl_GateSize.f : Nat → Int → Int → List (S46) → Option (Int)
 | 0, _, _, _ => none
 | k + 1, a0_0, a0_1, l0_2 => impl_GateSize.l0 k 1 l0_2 (l0_2.length : Int) 0
end
set_option maxHeartbeats 8000000 in
set_option maxRecDepth 100000 in
theorem impl_GateSize.calls (k : Nat) : ∀ (a0_0 : Int) (a0_1 : Int) (A0_2 : Option Addr) (c0_2 : Nat) (l0_2 : List (S46)) (r : Int) (w : World) (hr0_2 : Kd.C k46 w A0_2 l0_2.length l0_2) (hc0_2 : l0_2.length ≤ c0_2) (h : impl_GateSize.f k a0_0 a0_1 l0_2 = some r),
  Calls Tryd.prog 93 #[.agg #[.int .i64 a0_0, .int .i64 a0_1, .slice A0_2 l0_2.length c0_2]] w fun e w' => e = .returned (.int .i64 r) ∧ Below w.heap.size w w' := by
 induction k using Nat.strongRecOn with
 | _ k ih =>
 intro a0_0 a0_1 A0_2 c0_2 l0_2 r w hr0_2 hc0_2 h
 cases k with
 | zero => exact absurd h (by simp [impl_GateSize.f])
 | succ k =>
 simp only [impl_GateSize.f] at h
 have hu46 := Tryd.underlying46
 have HR0_2 := Aside0.mk hr0_2
 have HC0_2 := Aside0.mk hc0_2
 clear hr0_2 hc0_2
 have HB := Aside0.mk (Below.refl w.heap.size w)
 have H : (impl_GateSize.l0 k 1 l0_2 (l0_2.length : Int) 0) = some r := h
 clear h
 have H' := Aside0.mk H
 clear H
 go_enter Tryd.func93, Tryd.ntmps93
 go_wp2_with (first | ((with_reducible refine gate_dst (N := 1) rfl ?_); refine box_event ?hg (N := 1) ?hd (cs := #[.int .i64 a0_0, .int .i64 a0_1, .slice A0_2 l0_2.length c0_2]) (t := 46) ?hr ?_; (case hd => rfl); (case hg => rfl); (case hr => first | (go_simp; done) | (go_simp; rfl)); intro gb276 hg w2 hbox hb; have n0_ := Aside0.mk (below_step (by repeat (first | (with_reducible first | exact HB.out | apply below_alloc | apply pw_below_drewN | apply below_drew1) | exact HB.out)) hb); have n1_ := Aside0.mk (hbox); have n2_ := Aside0.mk ((by rw [hg]; exact (below_size (by repeat (first | (with_reducible first | exact HB.out | apply below_alloc | apply pw_below_drewN | apply below_drew1) | exact HB.out))) : w.heap.size ≤ gb276)); have n3_ := Aside0.mk ((by rw [hg]; exact (below_size (by repeat (first | (with_reducible first | exact HB.out | apply below_alloc | apply pw_below_drewN | apply below_drew1) | exact HB.out))) : w.heap.size ≤ gb276)); clear HB; have HB := n0_; have BK276 := n1_; have GW276 := n2_; have GE276 := n3_; clear n0_ n1_ n2_ n3_; clear hb hbox hg; have hcz3_0 : w2.cell? ⟨gb276, 0, none⟩ = some (.int .i64 a0_0) := (blk_cell BK276.out 0).trans rfl; have hcz3_1 : w2.cell? ⟨gb276, 1, none⟩ = some (.int .i64 a0_1) := (blk_cell BK276.out 1).trans rfl; have hcz3_2 : w2.cell? ⟨gb276, 2, none⟩ = some (.slice A0_2 l0_2.length c0_2) := (blk_cell BK276.out 2).trans rfl; have hfz3_0 := blk_frozen BK276.out 0; have hfz3_1 := blk_frozen BK276.out 1; have hfz3_2 := blk_frozen BK276.out 2))
 go_loopg [3, 9] k (fun kq v3 v9 w' => ∃ (x3_1 : Int) (x9_1 : Int), v3 = .int .i64 x3_1 ∧ v9 = .int .i64 x9_1 ∧ Aside0 (impl_GateSize.l0 kq x3_1 l0_2 (l0_2.length : Int) x9_1 = some r) ∧ Aside0 (kq ≤ k) ∧ Aside0 (w'.heap[gb276]? = some (.cells #[.int .i64 a0_0, .int .i64 a0_1, (.slice A0_2 l0_2.length c0_2)] 46 (0, 0))) ∧ Aside0 (Below w.heap.size w w'))
 case atStart => exact ⟨(1), (0), (by first | rfl | (simp; done) | (simp [*]; done)), (by first | rfl | (simp; done) | (simp [*]; done)), H', ⟨Nat.le_refl _⟩, ⟨by (with_reducible repeat (first | refine blk_drewN ?_ _ | refine blk_drew ?_ | refine blk_alloc ?_ _)); exact BK276.out⟩, ⟨by repeat (first | (with_reducible first | exact HB.out | apply below_alloc | apply pw_below_drewN | apply below_drew1 | refine below_set ?_ GE276.out) | exact HB.out)⟩⟩
 case round =>
  clear H'
  try clear p2
  try clear hcz3_0
  try clear hcz3_1
  try clear hcz3_2
  try clear hfz3_0
  try clear hfz3_1
  try clear hfz3_2
  obtain ⟨x3_1, x9_1, rfl, rfl, HA, HK1, BK276, HB⟩ := hrel
  cases gk with
  | zero => exact absurd HA.out (by simp [impl_GateSize.l0])
  | succ k1 =>
   have H := HA.out
   clear HA
   simp only [impl_GateSize.l0] at H
   by_cases c4 : x9_1 < (l0_2.length : Int)
   ·rw [if_pos c4] at H
    have c4b0 : decide (x9_1 < (l0_2.length : Int)) = true := decide_eq_true c4
    clear c4
    by_cases c5 : 0 ≤ x9_1
    ·rw [if_pos c5] at H
     have c5b0 : decide (0 ≤ x9_1) = true := decide_eq_true c5
     clear c5
     by_cases c6 : x9_1 < (l0_2.length : Int)
     ·rw [if_pos c6] at H
      have c6b0 : decide (x9_1 < (l0_2.length : Int)) = true := decide_eq_true c6
      clear c6
      replace H := Option.bind_eq_some_iff.mp H
      obtain ⟨t279, A70, H⟩ := H
      replace H : (impl_GateSize.l0 k1 (wrap64 (x3_1 + t279)) l0_2 (l0_2.length : Int) (wrap64 (x9_1 + 1))) = some r := H
      have A7 := Aside0.mk A70
      clear A70
      have H' := Aside0.mk H
      clear H
      have p277 : 0 ≤ (x9_1 : Int) := of_decide_eq_true (by first | (with_reducible assumption) | assumption)
      have q277 : x9_1 < (l0_2.length : Int) := of_decide_eq_true (by first | (with_reducible assumption) | assumption)
      obtain ⟨ad277, A277_2, c277_2, e277, hx277_0, hx277_1, hx277_2, hl277_2, hi277_2⟩ := at_T46 HR0_2.out x9_1 p277 q277
      cases e277
      replace hx277_0 := (HB.out.cell (World.block_lt_of_cell? w _ hx277_0)).trans hx277_0
      replace hx277_1 := (HB.out.cell (World.block_lt_of_cell? w _ hx277_1)).trans hx277_1
      replace hx277_2 := (HB.out.cell (World.block_lt_of_cell? w _ hx277_2)).trans hx277_2
      have HR277_2 := Aside0.mk hi277_2
      have HC277_2 := Aside0.mk hl277_2
      clear hi277_2 hl277_2
      replace p277 := eq_true p277
      replace q277 := eq_true q277
      go_wp2_with (first | ((with_reducible refine gate_dst (N := 5) rfl ?_); refine box_event ?hg (N := 5) ?hd (cs := #[.int .i64 0, .int .i64 0, .slice none 0 0]) (t := 46) ?hr ?_; (case hd => rfl); (case hg => rfl); (case hr => first | (go_simp; done) | (go_simp; rfl)); intro gb278 hg w8 hbox hb; have n0_ := Aside0.mk (blk_below (g := gb276) (o := .cells #[.int .i64 a0_0, .int .i64 a0_1, .slice (some ad277) l0_2.length c0_2] 46 (0, 0)) (by (with_reducible repeat (first | refine blk_drewN ?_ _ | refine blk_drew ?_ | refine blk_alloc ?_ _)); exact BK276.out) hb); have n1_ := Aside0.mk (below_step (by repeat (first | (with_reducible first | exact HB.out | apply below_alloc | apply pw_below_drewN | apply below_drew1 | refine below_set ?_ GE276.out) | exact HB.out)) hb); have n2_ := Aside0.mk (hbox); have n3_ := Aside0.mk ((by rw [hg]; exact (below_size (by repeat (first | (with_reducible first | exact HB.out | apply below_alloc | apply pw_below_drewN | apply below_drew1 | refine below_set ?_ GE276.out) | exact HB.out))) : w.heap.size ≤ gb278)); have n4_ := Aside0.mk ((by rw [hg]; exact (below_size (by repeat (first | (with_reducible first | exact HB.out | apply below_alloc | apply pw_below_drewN | apply below_drew1 | refine below_set ?_ GE276.out) | exact HB.out))) : w.heap.size ≤ gb278)); have n5_ := Aside0.mk ((by rw [hg]; exact Nat.ne_of_lt (blk_lt (g := gb276) (o := .cells #[.int .i64 a0_0, .int .i64 a0_1, .slice (some ad277) l0_2.length c0_2] 46 (0, 0)) (by (with_reducible repeat (first | refine blk_drewN ?_ _ | refine blk_drew ?_ | refine blk_alloc ?_ _)); exact BK276.out)) : gb276 ≠ gb278)); have n6_ := Aside0.mk ((by rw [hg]; exact Nat.ne_of_gt (blk_lt (g := gb276) (o := .cells #[.int .i64 a0_0, .int .i64 a0_1, .slice (some ad277) l0_2.length c0_2] 46 (0, 0)) (by (with_reducible repeat (first | refine blk_drewN ?_ _ | refine blk_drew ?_ | refine blk_alloc ?_ _)); exact BK276.out)) : gb278 ≠ gb276)); clear BK276; clear HB; have BK276 := n0_; have HB := n1_; have BK278 := n2_; have GW278 := n3_; have GE278 := n4_; have NB276_278 := n5_; have NB278_276 := n6_; clear n0_ n1_ n2_ n3_ n4_ n5_ n6_; clear hb hbox hg; have hnb9 := NB278_276.out; have hnc9 := NB276_278.out; have hcz10_0 : w8.cell? ⟨gb278, 0, none⟩ = some (.int .i64 0) := (blk_cell BK278.out 0).trans rfl; have hcz10_1 : w8.cell? ⟨gb278, 1, none⟩ = some (.int .i64 0) := (blk_cell BK278.out 1).trans rfl; have hcz10_2 : w8.cell? ⟨gb278, 2, none⟩ = some (.slice none 0 0) := (blk_cell BK278.out 2).trans rfl; have hfz10_0 := blk_frozen BK278.out 0; have hfz10_1 := blk_frozen BK278.out 1; have hfz10_2 := blk_frozen BK278.out 2) | ((with_reducible refine gate_callee (f := 93) rfl ?_); refine goesL_ (some 15) rfl rfl Tryd.func93 (by kernel_rfl) rfl #[.agg #[.int .i64 ((rd_T46 l0_2 x9_1).f0), .int .i64 ((rd_T46 l0_2 x9_1).f1), .slice A277_2 ((rd_T46 l0_2 x9_1).f2).length c277_2]] rfl (by (try simp only [List.map_toArray, List.map_cons, List.map_nil]); first | done | rfl | (simp only [List.length_drop, List.length_take]; rfl)) ?_; (with_reducible refine (ih k1 (by have := HK1.out; omega) ((rd_T46 l0_2 x9_1).f0) ((rd_T46 l0_2 x9_1).f1) _ _ ((rd_T46 l0_2 x9_1).f2) t279 _ ?side1 ?side2 A7.out).mono ?_); (case side1 => exact Kd.C_below HR277_2.out (by repeat (first | (with_reducible first | exact HB.out | apply below_alloc | apply pw_below_drewN | apply below_drew1 | refine below_set ?_ GE276.out | refine below_set ?_ GE278.out) | exact HB.out))); (case side2 => exact HC277_2.out); rintro e w11 ⟨rfl, hb⟩; refine ⟨_, rfl, ?_⟩; have n0_ := Aside0.mk (blk_below (g := gb276) (o := .cells #[.int .i64 a0_0, .int .i64 a0_1, .slice (some ad277) l0_2.length c0_2] 46 (0, 0)) (by (with_reducible repeat (first | refine blk_drewN ?_ _ | refine blk_drew ?_ | refine blk_alloc ?_ _)); refine blk_far ?_ NB276_278.out _; (with_reducible repeat (first | refine blk_drewN ?_ _ | refine blk_drew ?_ | refine blk_alloc ?_ _)); refine blk_far ?_ NB276_278.out _; (with_reducible repeat (first | refine blk_drewN ?_ _ | refine blk_drew ?_ | refine blk_alloc ?_ _)); refine blk_far ?_ NB276_278.out _; (with_reducible repeat (first | refine blk_drewN ?_ _ | refine blk_drew ?_ | refine blk_alloc ?_ _)); exact BK276.out) hb); have n1_ := Aside0.mk (blk_below (g := gb278) (o := .cells #[.int .i64 ((rd_T46 l0_2 x9_1).f0), .int .i64 ((rd_T46 l0_2 x9_1).f1), .slice A277_2 ((rd_T46 l0_2 x9_1).f2).length c277_2] 46 (0, 0)) (by (with_reducible repeat (first | refine blk_drewN ?_ _ | refine blk_drew ?_ | refine blk_alloc ?_ _)); refine blk_put (cs := #[.int .i64 ((rd_T46 l0_2 x9_1).f0), .int .i64 ((rd_T46 l0_2 x9_1).f1), .slice none 0 0]) ?_ 2 _ rfl; (with_reducible repeat (first | refine blk_drewN ?_ _ | refine blk_drew ?_ | refine blk_alloc ?_ _)); refine blk_put (cs := #[.int .i64 ((rd_T46 l0_2 x9_1).f0), .int .i64 0, .slice none 0 0]) ?_ 1 _ rfl; (with_reducible repeat (first | refine blk_drewN ?_ _ | refine blk_drew ?_ | refine blk_alloc ?_ _)); refine blk_put (cs := #[.int .i64 0, .int .i64 0, .slice none 0 0]) ?_ 0 _ rfl; (with_reducible repeat (first | refine blk_drewN ?_ _ | refine blk_drew ?_ | refine blk_alloc ?_ _)); exact BK278.out) hb); have n2_ := Aside0.mk (below_step (by repeat (first | (with_reducible first | exact HB.out | apply below_alloc | apply pw_below_drewN | apply below_drew1 | refine below_set ?_ GE276.out | refine below_set ?_ GE278.out) | exact HB.out)) hb); clear BK276; clear BK278; clear HB; have BK276 := n0_; have BK278 := n1_; have HB := n2_; clear n0_ n1_ n2_; (try clear hb); (try clear hb2); (try clear hk); (try clear hi)))
      go_roundg k1
      case measure => have := HK1.out; omega
      case rel => exact ⟨(wrap64 (x3_1 + t279)), (wrap64 (x9_1 + 1)), (by first | rfl | (simp; done) | (simp [*]; done)), (by first | rfl | (simp; done) | (simp [*]; done)), H', ⟨by have := HK1.out; omega⟩, ⟨by (with_reducible repeat (first | refine blk_drewN ?_ _ | refine blk_drew ?_ | refine blk_alloc ?_ _)); exact BK276.out⟩, ⟨by repeat (first | (with_reducible first | exact HB.out | apply below_alloc | apply pw_below_drewN | apply below_drew1 | refine below_set ?_ GE276.out | refine below_set ?_ GE278.out) | exact HB.out)⟩⟩
     ·rw [if_neg c6] at H
      exact absurd H (by simp)
    ·rw [if_neg c5] at H
     exact absurd H (by simp)
   ·rw [if_neg c4] at H
    have c4b0 : decide (x9_1 < (l0_2.length : Int)) = false := decide_eq_false c4
    clear c4
    obtain rfl := Option.some.inj H
    go_wp2
    go_ret
    exact ⟨by first | rfl | (simp [errW_none, errW_some] <;> rfl) | (simp [*, errW_none, errW_some] <;> rfl), by repeat (first | (with_reducible first | exact HB.out | apply below_alloc | apply pw_below_drewN | apply below_drew1 | refine below_set ?_ GE276.out) | exact HB.out)⟩
def impl_ValidGate.f (k : Nat) (h : Int) (a : Int) (b : Int) (l : List S46) : Option Bool := (impl_within.f h 1 7).bind fun t => if t = true then ((impl_Gate_isFormed.f k a b l h 12).bind fun u => if u = true then ((impl_GateSize.f k a b l).bind fun v => some (decide (v ≤ 60))) else some false) else some false
set_option maxHeartbeats 8000000 in
set_option maxRecDepth 100000 in
theorem impl_ValidGate.calls (k : Nat) (a0 : Int) (a1_0 : Int) (a1_1 : Int) (A1_2 : Option Addr) (c1_2 : Nat) (l1_2 : List S46) (r : Bool) (w : World) (hr1_2 : Kd.C k46 w A1_2 l1_2.length l1_2) (hc1_2 : l1_2.length ≤ c1_2) (h : impl_ValidGate.f k a0 a1_0 a1_1 l1_2 = some r) :
  Calls Tryd.prog 52 #[.int .i64 a0, .agg #[.int .i64 a1_0, .int .i64 a1_1, .slice A1_2 l1_2.length c1_2]] w fun e w' => e = .returned (.bool r) ∧ Below w.heap.size w w' := by
 have HR := Aside0.mk hr1_2
 have HC := Aside0.mk hc1_2
 clear hr1_2 hc1_2
 have hum := Tryd.underlying46
 unfold impl_ValidGate.f at h
 replace h := Option.bind_eq_some_iff.mp h
 obtain ⟨t, At, h⟩ := h
 have A1 := Aside0.mk At
 clear At
 cases t with
 | false =>
  rw [if_neg (by decide)] at h
  obtain rfl := Option.some.inj h
  clear h
  go_enter Tryd.func52, Tryd.ntmps52
  go_wp2_with (first | (go_at_call 57; (with_reducible refine (impl_within.calls a0 1 7 false _ A1.out).mono ?_); rintro e w' ⟨rfl, ⟨nd, rfl⟩⟩))
  go_ret
  exact ⟨rfl, (by repeat (first | exact Below.refl _ _ | apply below_alloc | apply pw_below_drewN | apply below_drew1))⟩
 | true =>
  rw [if_pos rfl] at h
  replace h := Option.bind_eq_some_iff.mp h
  obtain ⟨u, Au, h⟩ := h
  have A2 := Aside0.mk Au
  clear Au
  cases u with
  | false =>
   rw [if_neg (by decide)] at h
   obtain rfl := Option.some.inj h
   clear h
   go_enter Tryd.func52, Tryd.ntmps52
   go_wp2_with (first | (go_at_call 57; (with_reducible refine (impl_within.calls a0 1 7 true _ A1.out).mono ?_); rintro e w' ⟨rfl, ⟨nd, rfl⟩⟩) | (go_at_call 92; (with_reducible refine (impl_Gate_isFormed.calls k a1_0 a1_1 _ _ l1_2 a0 12 false _ ?side1 ?side2 A2.out).mono ?_); (case side1 => exact (by repeat (first | exact HR.out | (with_reducible refine Kd.C_alloc ?_ _) | (with_reducible refine Kd.C_drewN ?_ _) | (with_reducible refine Kd.C_drew ?_)))); (case side2 => exact HC.out); rintro e w1 ⟨rfl, hb⟩; have n1_ := Aside0.mk (blk_below (g := w.heap.size) (o := .cells #[.int .i64 a1_0, .int .i64 a1_1, .slice A1_2 l1_2.length c1_2] 46 (0, 0)) (by repeat (first | exact blk_new_at (by simp) | (with_reducible refine blk_drewN ?_ _) | (with_reducible refine blk_drew ?_) | (with_reducible refine blk_alloc ?_ _))) hb); have n9_ : Aside0 (Below w.heap.size w w1) := Aside0.mk (below_step (by repeat (first | exact Below.refl _ _ | apply below_alloc | apply pw_below_drewN | apply below_drew1)) hb); clear hb; have hx0 : w1.cell? ⟨w.heap.size, 0, none⟩ = some (.int .i64 a1_0) := (blk_cell n1_.out 0).trans rfl; have hx1 : w1.cell? ⟨w.heap.size, 1, none⟩ = some (.int .i64 a1_1) := (blk_cell n1_.out 1).trans rfl; have hx2 : w1.cell? ⟨w.heap.size, 2, none⟩ = some (.slice A1_2 l1_2.length c1_2) := (blk_cell n1_.out 2).trans rfl))
   go_ret
   exact ⟨(by first | rfl | (simp; done) | (simp [*]; done)), (by repeat (first | exact n9_.out | apply below_alloc | apply pw_below_drewN | apply below_drew1))⟩
  | true =>
   rw [if_pos rfl] at h
   replace h := Option.bind_eq_some_iff.mp h
   obtain ⟨v, Av, h⟩ := h
   have A3 := Aside0.mk Av
   clear Av
   obtain rfl := Option.some.inj h
   clear h
   go_enter Tryd.func52, Tryd.ntmps52
   go_wp2_with (first | (go_at_call 57; (with_reducible refine (impl_within.calls a0 1 7 true _ A1.out).mono ?_); rintro e w' ⟨rfl, ⟨nd, rfl⟩⟩) | (go_at_call 92; (with_reducible refine (impl_Gate_isFormed.calls k a1_0 a1_1 _ _ l1_2 a0 12 true _ ?side1 ?side2 A2.out).mono ?_); (case side1 => exact (by repeat (first | exact HR.out | (with_reducible refine Kd.C_alloc ?_ _) | (with_reducible refine Kd.C_drewN ?_ _) | (with_reducible refine Kd.C_drew ?_)))); (case side2 => exact HC.out); rintro e w1 ⟨rfl, hb⟩; have n1_ := Aside0.mk (blk_below (g := w.heap.size) (o := .cells #[.int .i64 a1_0, .int .i64 a1_1, .slice A1_2 l1_2.length c1_2] 46 (0, 0)) (by repeat (first | exact blk_new_at (by simp) | (with_reducible refine blk_drewN ?_ _) | (with_reducible refine blk_drew ?_) | (with_reducible refine blk_alloc ?_ _))) hb); have n9_ : Aside0 (Below w.heap.size w w1) := Aside0.mk (below_step (by repeat (first | exact Below.refl _ _ | apply below_alloc | apply pw_below_drewN | apply below_drew1)) hb); clear hb; have hx0 : w1.cell? ⟨w.heap.size, 0, none⟩ = some (.int .i64 a1_0) := (blk_cell n1_.out 0).trans rfl; have hx1 : w1.cell? ⟨w.heap.size, 1, none⟩ = some (.int .i64 a1_1) := (blk_cell n1_.out 1).trans rfl; have hx2 : w1.cell? ⟨w.heap.size, 2, none⟩ = some (.slice A1_2 l1_2.length c1_2) := (blk_cell n1_.out 2).trans rfl) | (go_at_call 93; (with_reducible refine (impl_GateSize.calls k a1_0 a1_1 _ _ l1_2 v _ ?side1 ?side2 A3.out).mono ?_); (case side1 => exact Kd.C_below HR.out (by repeat (first | exact n9_.out | apply below_alloc | apply pw_below_drewN | apply below_drew1))); (case side2 => exact HC.out); rintro e w2 ⟨rfl, hb⟩))
   go_ret
   exact ⟨rfl, below_step (by repeat (first | exact n9_.out | apply below_alloc | apply pw_below_drewN | apply below_drew1)) hb⟩
open Go.Shelf in
def fmtRen : Go.Shelf.Ren := ⟨fun | 173 => 88 | 246 => 111 | 283 => 130 | 284 => 131 | 285 => 132 | 286 => 133 | 129 => 147 | 317 => 146 | 318 => 148 | 319 => 149 | 320 => 150 | 337 => 159 | 338 => 160 | n => n, fun | 2 => 2 | 3 => 3 | 9 => 9 | 4 => 4 | 171 => 159 | 0 => 0 | 53 => 151 | 37 => 108 | 5 => 5 | 173 => 162 | 212 => 177 | 51 => 178 | 20 => 20 | 213 => 179 | 46 => 116 | 232 => 195 | 233 => 196 | n => n, fun | 17 => 2 | 18 => 6 | 19 => 7 | n => n⟩
open Go.Shelf in
theorem fmtLays : Go.Proofs.Lays.n173 Tryd.prog fmtRen := {
 mixed := by kernel_rfl
 f129 := Tryd.func147.trans (congrArg some (by kernel_rfl))
 f173 := Tryd.func88.trans (congrArg some (by kernel_rfl))
 f246 := Tryd.func111.trans (congrArg some (by kernel_rfl))
 f283 := Tryd.func130.trans (congrArg some (by kernel_rfl))
 f284 := Tryd.func131.trans (congrArg some (by kernel_rfl))
 f285 := Tryd.func132.trans (congrArg some (by kernel_rfl))
 f286 := Tryd.func133.trans (congrArg some (by kernel_rfl))
 f317 := Tryd.func146.trans (congrArg some (by kernel_rfl))
 f318 := Tryd.func148.trans (congrArg some (by kernel_rfl))
 f319 := Tryd.func149.trans (congrArg some (by kernel_rfl))
 f320 := Tryd.func150.trans (congrArg some (by kernel_rfl))
 f337 := Tryd.func159.trans (congrArg some (by kernel_rfl))
 f338 := Tryd.func160.trans (congrArg some (by kernel_rfl))
 t0 := Tryd.underlying0
 a0 := Tryd.isAgg0
 z0 := Tryd.sizeOf0
 v0 := Tryd.zeroValue0
 t2 := Tryd.underlying2
 a2 := Tryd.isAgg2
 z2 := Tryd.sizeOf2
 v2 := Tryd.zeroValue2
 t3 := Tryd.underlying3
 a3 := Tryd.isAgg3
 z3 := Tryd.sizeOf3
 v3 := Tryd.zeroValue3
 t4 := Tryd.underlying4
 a4 := Tryd.isAgg4
 z4 := Tryd.sizeOf4
 v4 := Tryd.zeroValue4
 t5 := Tryd.underlying5
 a5 := Tryd.isAgg5
 z5 := Tryd.sizeOf5
 v5 := Tryd.zeroValue5
 t9 := Tryd.underlying9
 a9 := Tryd.isAgg9
 z9 := Tryd.sizeOf9
 v9 := Tryd.zeroValue9
 t20 := Tryd.underlying20
 a20 := Tryd.isAgg20
 z20 := Tryd.sizeOf20
 v20 := Tryd.zeroValue20
 t37 := Tryd.underlying108
 a37 := Tryd.isAgg108
 z37 := Tryd.sizeOf108
 v37 := Tryd.zeroValue108
 t46 := Tryd.underlying116
 a46 := Tryd.isAgg116
 z46 := Tryd.sizeOf116
 v46 := Tryd.zeroValue116
 t51 := Tryd.underlying178
 a51 := Tryd.isAgg178
 z51 := Tryd.sizeOf178
 v51 := Tryd.zeroValue178
 t53 := Tryd.underlying151
 a53 := Tryd.isAgg151
 z53 := Tryd.sizeOf151
 v53 := Tryd.zeroValue151
 t171 := Tryd.underlying159
 a171 := Tryd.isAgg159
 z171 := Tryd.sizeOf159
 v171 := Tryd.zeroValue159
 t173 := Tryd.underlying162
 a173 := Tryd.isAgg162
 z173 := Tryd.sizeOf162
 v173 := Tryd.zeroValue162
 t212 := Tryd.underlying177
 a212 := Tryd.isAgg177
 z212 := Tryd.sizeOf177
 v212 := Tryd.zeroValue177
 t213 := Tryd.underlying179
 a213 := Tryd.isAgg179
 z213 := Tryd.sizeOf179
 t232 := Tryd.underlying195
 a232 := Tryd.isAgg195
 z232 := Tryd.sizeOf195
 v232 := Tryd.zeroValue195
 t233 := Tryd.underlying196
 a233 := Tryd.isAgg196
 z233 := Tryd.sizeOf196
 v233 := Tryd.zeroValue196
 g17 := by kernel_rfl
 g18 := by kernel_rfl
 g19 := by kernel_rfl }
open Go.RowKit Go.Sort Go.Lib in
theorem fmtSmall (i : Nat) (hi : i < 100) (w : World) :
  Calls Tryd.prog 88 #[.int .i64 i, .int .i64 10] w fun e w' => e = .returned (.string ⟨(Lib.decDigits i).toArray⟩) ∧ w' = w := Any.strconv_FormatInt_10_small fmtLays i hi w
def impl_decimal.f (a0 : Int) : Option ByteArray := if 0 ≤ a0 ∧ a0 < 100 then some ⟨(Go.Lib.decDigits a0.toNat).toArray⟩ else none
set_option maxHeartbeats 8000000 in
set_option maxRecDepth 100000 in
theorem impl_decimal.calls (a0 : Int) (r : ByteArray) (w : World) (h : impl_decimal.f a0 = some r) :
  Calls Tryd.prog 46 #[.int .i64 a0] w fun e w' => e = .returned (.string r) ∧ Drawn0 w w' := by
 unfold impl_decimal.f at h
 by_cases c : 0 ≤ a0 ∧ a0 < 100
 ·rw [if_pos c] at h
  obtain rfl := Option.some.inj h
  have C0 := fun w => fmtSmall a0.toNat (by omega) w
  rw [show ((a0.toNat : Nat) : Int) = a0 by omega] at C0
  have C := Aside0.mk C0
  clear C0 h c
  go_enter Tryd.func46, Tryd.ntmps46
  go_wp2_with (first | (go_at_call 88; (with_reducible refine (C.out _).mono ?_); rintro e w' ⟨rfl, rfl⟩))
  go_ret
  exact ⟨rfl, by repeat (first | exact Drawn0.refl _ | apply Drawn0.step)⟩
 ·rw [if_neg c] at h
  exact absurd h (by simp)
def impl_groupText.l0 : Nat → List Int → List Int → Int → Int → Option (ByteArray)
 | 0, _, _, _, _ => none
 | k + 1, x3, x10, x11, x12 => if x12 < x11 then (if 0 ≤ x12 then (if x12 < (x10.length : Int) then (if x3.length < 140737488355328 then (impl_groupText.l0 k (x3 ++ [(wrap64 (65 + (rd x10 x12))) % 256]) x10 x11 (wrap64 (x12 + 1))) else (none)) else (none)) else (none)) else (some (strOfNums x3))
def impl_groupText.f (k : Nat) (l0 : List Int) : Option (ByteArray) := if (l0.length : Int) = 0 then (some (⟨#[45]⟩ : ByteArray)) else (impl_groupText.l0 k (([] : List Int)) l0 (l0.length : Int) 0)
set_option maxHeartbeats 8000000 in
set_option maxRecDepth 100000 in
theorem impl_groupText.calls (k : Nat) (A0 : Option Addr) (c0 : Nat) (l0 : List Int) (r : ByteArray) (w : World) (hr0 : Kd.C (Kd.int .i64) w A0 l0.length l0) (hc0 : l0.length ≤ c0) (h : impl_groupText.f k l0 = some r) :
  Calls Tryd.prog 47 #[.slice A0 l0.length c0] w fun e w' => e = .returned (.string r) ∧ Below w.heap.size w w' := by
 have HR0 := Aside0.mk hr0
 have HC0 := Aside0.mk hc0
 clear hr0 hc0
 have HB := Aside0.mk (Below.refl w.heap.size w)
 have H : (if (l0.length : Int) = 0 then (some (⟨#[45]⟩ : ByteArray)) else (impl_groupText.l0 k (([] : List Int)) l0 (l0.length : Int) 0)) = some r := h
 clear h
 by_cases c2 : (l0.length : Int) = 0
 ·rw [if_pos c2] at H
  have c2b0 : ((l0.length : Int) == 0) = true := beq_iff_eq.mpr c2
  have c2b1 : ((l0.length : Int) != 0) = false := bne_eq_false_iff_eq.mpr c2
  clear c2
  obtain rfl := Option.some.inj H
  go_enter Tryd.func47, Tryd.ntmps47
  go_wp2
  go_ret
  exact ⟨by first | rfl | (simp [errW_none, errW_some] <;> rfl) | (simp [*, errW_none, errW_some] <;> rfl), by repeat (first | (with_reducible first | exact HB.out | apply below_alloc | apply pw_below_drewN | apply below_drew1) | exact HB.out)⟩
 ·rw [if_neg c2] at H
  have c2b0 : ((l0.length : Int) == 0) = false := beq_eq_false_iff_ne.mpr c2
  have c2b1 : ((l0.length : Int) != 0) = true := bne_iff_ne.mpr c2
  have c2b2 : ¬ (l0 = []) := fun h_ => c2 (by rw [h_]; rfl)
  obtain ⟨y252, hy252⟩ : ∃ y_ : List Int, y_ = (([] : List Int)) := ⟨_, rfl⟩
  replace H : (impl_groupText.l0 k y252 l0 (l0.length : Int) 0) = some r := by first | (rw [hy252]; with_reducible exact H) | (have H2_ := (Option.bind_some _ _).symm.trans H; rw [hy252]; with_reducible exact H2_) | (have H2_ := (Option.bind_some _ _).symm.trans H; with_reducible exact H2_) | with_reducible exact H | (rw [hy252]; exact H) | exact H
  have Ny252 := Aside0.mk hy252
  clear hy252
  have H' := Aside0.mk H
  clear H
  go_enter Tryd.func47, Tryd.ntmps47
  go_wp2_with (first | ((with_reducible refine gate_dst (N := 9) rfl ?_); refine Kd.R_lit (Kd.int .u8) _ 5 ?hg (N := 9) ?hd (xs := ([] : List Int)) (inner := []) (ok := fun _ => True) (okp := fun _ => True) ?hr ?hp (fun _ hk => hk) trivial (Below.refl _ _) (Nat.le_refl _) (by simp) ?_; (case hd => rfl); (case hg => rfl); (case hr => first | (go_simp; done) | (go_simp; rfl)); (case hp => exact (Reps.none _ _)); intro v253 w3 ho4 hb hg_ hnew_; clear hg_ hnew_; (first | rw [← Ny252.out] at ho4 | (simp only [Int.reduceToNat] at ho4; rw [← Ny252.out] at ho4)); have n0_ := Aside0.mk (Kd.R_lower ho4 (below_size (by repeat (first | (with_reducible first | exact HB.out | apply below_alloc | apply pw_below_drewN | apply below_drew1) | exact HB.out)))); have n1_ := Aside0.mk (below_step (by repeat (first | (with_reducible first | exact HB.out | apply below_alloc | apply pw_below_drewN | apply below_drew1) | exact HB.out)) hb); clear HB; have HO254 := n0_; have HB := n1_; clear n0_ n1_; clear hb ho4))
  go_loopg [3, 12] k (fun kq v3 v12 w' => ∃ (x3_1 : List Int) (x12_1 : Int), v12 = .int .i64 x12_1 ∧ Aside0 (impl_groupText.l0 kq x3_1 l0 (l0.length : Int) x12_1 = some r) ∧ Aside0 (kq ≤ k) ∧ Aside0 (Kd.R (Kd.int .u8) 5 w' w.heap.size (fun _ => True) v3 x3_1) ∧ Aside0 (Below w.heap.size w w'))
  case atStart => exact ⟨(y252), (0), (by first | rfl | (simp; done) | (simp [*]; done)), H', ⟨Nat.le_refl _⟩, ⟨by (with_reducible repeat (first | apply Kd.R_alloc | apply Kd.R_drewN | apply Kd.R_drew)); exact HO254.out⟩, ⟨by repeat (first | (with_reducible first | exact HB.out | apply below_alloc | apply pw_below_drewN | apply below_drew1) | exact HB.out)⟩⟩
  case round =>
   clear H'
   try clear c2
   try clear c2b0
   try clear c2b1
   try clear c2b2
   try clear p2
   try clear c4
   obtain ⟨x3_1, x12_1, rfl, HA, HK1, HO_3, HB⟩ := hrel
   cases gk with
   | zero => exact absurd HA.out (by simp [impl_groupText.l0])
   | succ k1 =>
    have H := HA.out
    clear HA
    simp only [impl_groupText.l0] at H
    by_cases c5 : x12_1 < (l0.length : Int)
    ·rw [if_pos c5] at H
     have c5b0 : decide (x12_1 < (l0.length : Int)) = true := decide_eq_true c5
     clear c5
     by_cases c6 : 0 ≤ x12_1
     ·rw [if_pos c6] at H
      have c6b0 : decide (0 ≤ x12_1) = true := decide_eq_true c6
      clear c6
      by_cases c7 : x12_1 < (l0.length : Int)
      ·rw [if_pos c7] at H
       have c7b0 : decide (x12_1 < (l0.length : Int)) = true := decide_eq_true c7
       clear c7
       by_cases c8 : x3_1.length < 140737488355328
       ·rw [if_pos c8] at H
        have LMc8 := Aside0.mk c8
        clear c8
        obtain ⟨y256, hy256⟩ : ∃ y_ : List Int, y_ = (x3_1 ++ [(wrap64 (65 + (rd l0 x12_1))) % 256]) := ⟨_, rfl⟩
        replace H : (impl_groupText.l0 k1 y256 l0 (l0.length : Int) (wrap64 (x12_1 + 1))) = some r := by first | (rw [hy256]; with_reducible exact H) | (have H2_ := (Option.bind_some _ _).symm.trans H; rw [hy256]; with_reducible exact H2_) | (have H2_ := (Option.bind_some _ _).symm.trans H; with_reducible exact H2_) | with_reducible exact H | (rw [hy256]; exact H) | exact H
        have Ny256 := Aside0.mk hy256
        clear hy256
        have H' := Aside0.mk H
        clear H
        have p255 : 0 ≤ (x12_1 : Int) := of_decide_eq_true (by first | (with_reducible assumption) | assumption)
        have q255 : x12_1 < (l0.length : Int) := of_decide_eq_true (by first | (with_reducible assumption) | assumption)
        obtain ⟨ad255, e255, hx255_0⟩ := Kd.at_int HR0.out x12_1 p255 q255
        cases e255
        replace hx255_0 := (HB.out.cell (World.block_lt_of_cell? w _ hx255_0)).trans hx255_0
        replace p255 := eq_true p255
        replace q255 := eq_true q255
        go_wp2_with (first | ((with_reducible refine gate_builtin (b := .append) (xs := #[.tmp 16, .tmp 20]) rfl ?_); at_builtin; refine Kd.R_append (Kd.int .u8) (w0 := w) w.heap.size rfl (.tmp 16) (.tmp 20) 108 5 (.int .u8 0) 1 rfl Tryd.underlying108 info5 rfl (by decide) (by omega) u3 x3_1 ((wrap64 (65 + (rd l0 x12_1))) % 256) [.int .u8 ((wrap64 (65 + (rd l0 x12_1))) % 256)] (fun _ => True) (fun _ => False) rfl rfl ?aP (fun _ hk => hk.elim) ?aF ?aO ?aB ?aS ?aL ?_; (case aP => exact rfl); (case aB => exact (by repeat (first | (with_reducible first | exact HB.out | apply below_alloc | apply pw_below_drewN | apply below_drew1) | exact HB.out))); (case aF => exact (fun _ _ => trivial)); (case aO => exact (by (with_reducible repeat (first | apply Kd.R_alloc | apply Kd.R_drewN | apply Kd.R_drew)); exact HO_3.out)); (case aS => exact (below_size (by repeat (first | (with_reducible first | exact HB.out | apply below_alloc | apply pw_below_drewN | apply below_drew1) | exact HB.out)))); (case aL => have := LMc8.out; omega); intro v257 w9 ho hb hg hat; rw [← Ny256.out] at ho; have n0_ := Aside0.mk (hb); have n1_ := Aside0.mk (ho); clear HB; clear HO_3; have HB := n0_; have HO258 := n1_; clear n0_ n1_; clear ho hb hg hat))
        go_roundg k1
        case measure => have := HK1.out; omega
        case rel => exact ⟨(y256), (wrap64 (x12_1 + 1)), (by first | rfl | (simp; done) | (simp [*]; done)), H', ⟨by have := HK1.out; omega⟩, ⟨by (with_reducible repeat (first | apply Kd.R_alloc | apply Kd.R_drewN | apply Kd.R_drew)); exact HO258.out⟩, ⟨by repeat (first | (with_reducible first | exact HB.out | apply below_alloc | apply pw_below_drewN | apply below_drew1) | exact HB.out)⟩⟩
       ·rw [if_neg c8] at H
        exact absurd H (by simp)
      ·rw [if_neg c7] at H
       exact absurd H (by simp)
     ·rw [if_neg c6] at H
      exact absurd H (by simp)
    ·rw [if_neg c5] at H
     have c5b0 : decide (x12_1 < (l0.length : Int)) = false := decide_eq_false c5
     clear c5
     obtain rfl := Option.some.inj H
     have hcv10 := own_string (P := Tryd.prog) Tryd.underlying108 Tryd.underlying5 Tryd.underlying9 (Kd.own_of_R HO_3.out)
     go_wp2
     go_ret
     exact ⟨by first | rfl | (simp [errW_none, errW_some] <;> rfl) | (simp [*, errW_none, errW_some] <;> rfl), by repeat (first | (with_reducible first | exact HB.out | apply below_alloc | apply pw_below_drewN | apply below_drew1) | exact HB.out)⟩
open Go.Shelf in
def joinRen : Go.Shelf.Ren := ⟨fun | 156 => 95 | 165 => 115 | 166 => 116 | 169 => 117 | 240 => 135 | 241 => 136 | 276 => 151 | 277 => 152 | n => n, fun | 31 => 90 | 9 => 9 | 3 => 3 | 4 => 4 | 0 => 0 | 20 => 20 | 72 => 143 | 76 => 145 | 70 => 141 | 37 => 108 | 75 => 102 | 127 => 165 | 164 => 182 | 5 => 5 | 80 => 80 | n => n, fun | n => n⟩
open Go.Shelf in
theorem joinLays : Go.Proofs.Lays.n156 Tryd.prog joinRen := {
 mixed := by kernel_rfl
 f156 := Tryd.func95.trans (congrArg some (by kernel_rfl))
 f165 := Tryd.func115.trans (congrArg some (by kernel_rfl))
 f166 := Tryd.func116.trans (congrArg some (by kernel_rfl))
 f169 := Tryd.func117.trans (congrArg some (by kernel_rfl))
 f240 := Tryd.func135.trans (congrArg some (by kernel_rfl))
 f241 := Tryd.func136.trans (congrArg some (by kernel_rfl))
 f276 := Tryd.func151.trans (congrArg some (by kernel_rfl))
 f277 := Tryd.func152.trans (congrArg some (by kernel_rfl))
 t0 := Tryd.underlying0
 a0 := Tryd.isAgg0
 z0 := Tryd.sizeOf0
 v0 := Tryd.zeroValue0
 t3 := Tryd.underlying3
 a3 := Tryd.isAgg3
 z3 := Tryd.sizeOf3
 v3 := Tryd.zeroValue3
 t4 := Tryd.underlying4
 a4 := Tryd.isAgg4
 z4 := Tryd.sizeOf4
 v4 := Tryd.zeroValue4
 t9 := Tryd.underlying9
 a9 := Tryd.isAgg9
 z9 := Tryd.sizeOf9
 v9 := Tryd.zeroValue9
 t20 := Tryd.underlying20
 a20 := Tryd.isAgg20
 z20 := Tryd.sizeOf20
 v20 := Tryd.zeroValue20
 t31 := Tryd.underlying90
 a31 := Tryd.isAgg90
 z31 := Tryd.sizeOf90
 v31 := Tryd.zeroValue90
 t37 := Tryd.underlying108
 a37 := Tryd.isAgg108
 z37 := Tryd.sizeOf108
 v37 := Tryd.zeroValue108
 t70 := Tryd.underlying141
 a70 := Tryd.isAgg141
 z70 := Tryd.sizeOf141
 v70 := Tryd.zeroValue141
 t72 := Tryd.underlying143
 a72 := Tryd.isAgg143
 z72 := Tryd.sizeOf143
 v72 := Tryd.zeroValue143
 t75 := Tryd.underlying102
 a75 := Tryd.isAgg102
 z75 := Tryd.sizeOf102
 v75 := Tryd.zeroValue102
 t76 := Tryd.underlying145
 a76 := Tryd.isAgg145
 z76 := Tryd.sizeOf145
 v76 := Tryd.zeroValue145
 t127 := Tryd.underlying165
 a127 := Tryd.isAgg165
 z127 := Tryd.sizeOf165
 v127 := Tryd.zeroValue165
 t164 := Tryd.underlying182
 a164 := Tryd.isAgg182
 z164 := Tryd.sizeOf182
 v164 := Tryd.zeroValue182 }
theorem joinExtra : Go.Proofs.Builder.Extra Tryd.prog joinRen := {
 sizeBuilder := by kernel_rfl
 liesBuilder := by kernel_rfl
 t5 := Tryd.underlying5
 a5 := Tryd.isAgg5
 z5 := Tryd.sizeOf5
 v5 := Tryd.zeroValue5
 infoByte := by kernel_rfl
 cellsByte := by kernel_rfl
 sizeByte := by kernel_rfl
 neB5 := by decide }
def joinB (l : List ByteArray) : ByteArray := ⟨(Go.Lib.join (l.map (·.data.toList)) [44, 32]).toArray⟩
theorem join_calls {base : Nat} {ok : Nat → Prop} (A : Option Addr) (c : Nat) (l : List ByteArray) (w : World) (hR : Kd.R Kd.string 9 w base ok (.slice A l.length c) l) (hlen : (joinB l).size ≤ 140737488355328) (hN : l.length ≤ 140737488355328) :
  Calls Tryd.prog 95 #[.slice A l.length c, .string (⟨#[44, 32]⟩ : ByteArray)] w fun e w' => e = .returned (.string (joinB l)) ∧ Below w.heap.size w w' := by
 obtain ⟨_, hc, hC⟩ := Kd.R_reads' hR
 by_cases h0 : l = []
 ·subst h0
  exact (Any.strings_Join_none joinLays joinExtra A c (⟨#[44, 32]⟩ : ByteArray) w).mono (fun e w' ⟨he, hw⟩ => ⟨he, hw ▸ Below.refl _ _⟩)
 ·have hp : 0 < l.length := List.length_pos_iff.mpr h0
  obtain ⟨g, cap, e, _, hlt, _⟩ := Kd.R_form hR hp
  injection e with ea en ec
  subst ea
  refine Any.strings_Join joinLays joinExtra g 0 c l (⟨#[44, 32]⟩ : ByteArray) w (fun j x hj => ?_) hlt hN hc hlen
  have hjl : j < l.length := (List.getElem?_eq_some_iff.1 hj).1
  obtain ⟨ad, cs, e1, _, hK, hcell⟩ := Kd.C_get hC (⟨#[]⟩ : ByteArray) (j : Int) (by omega) (by omega)
  injection e1 with e1
  subst e1
  have hK2 : cs = [.string (l.getD (j : Int).toNat (⟨#[]⟩ : ByteArray))] := hK
  subst hK2
  have := hcell 0 _ rfl
  rw [show Kd.string.sz = 1 from rfl, Nat.mul_one, Nat.add_zero, Int.toNat_natCast, List.getD_eq_getElem?_getD, hj] at this
  rw [Nat.zero_add]
  by_cases hz : j = 0
  ·subst hz; simpa [Addr.add] using this
  ·simpa [Addr.add, hz] using this
end Go.Proofs.YtijmdlhcidjpmaaDoor.P

namespace Go.Proofs.YtijmdlhcidjpmaaDoor.P
open Go.RowKit Go.Proofs.YtijmdlhcidjpmaaDoorW.PrintWords Go.Proofs.YtijmdlhcidjpmaaDoorW.PrintLast Go.Proofs.YtijmdlhcidjpmaaDoorW.PrintMore
attribute [local go_sem] max2_int min2_int max_two min_two max_three min_three max_four min_four
set_option linter.unusedVariables false
set_option linter.unusedSimpArgs false
end Go.Proofs.YtijmdlhcidjpmaaDoor.P

namespace Go.Proofs.YtijmdlhcidjpmaaDoor.P
open Go.RowKit Go.Proofs.YtijmdlhcidjpmaaDoorW.PrintWords Go.Proofs.YtijmdlhcidjpmaaDoorW.PrintLast Go.Proofs.YtijmdlhcidjpmaaDoorW.PrintMore
attribute [local go_sem] max2_int min2_int max_two min_two max_three min_three max_four min_four
set_option linter.unusedVariables false
set_option linter.unusedSimpArgs false
end Go.Proofs.YtijmdlhcidjpmaaDoor.P

namespace Go.Proofs.YtijmdlhcidjpmaaDoor.P
open Go.RowKit Go.Proofs.YtijmdlhcidjpmaaDoorW.PrintWords Go.Proofs.YtijmdlhcidjpmaaDoorW.PrintLast Go.Proofs.YtijmdlhcidjpmaaDoorW.PrintMore
attribute [local go_sem] max2_int min2_int max_two min_two max_three min_three max_four min_four
set_option linter.unusedVariables false
set_option linter.unusedSimpArgs false
theorem impl_within_eq (n lo hi : Int) : impl_within.f n lo hi = some (decide (lo ≤ n ∧ n ≤ hi)) := by
 unfold impl_within.f
 by_cases h : n ≥ lo
 ·rw [if_pos h]; congr 1; by_cases h2 : n ≤ hi <;> simp [h, h2]
 ·rw [if_neg h]; congr 1; simp; omega
theorem spec_l00In_eq (n lo hi : Int) : spec_l00In.f n lo hi = some (decide (lo ≤ n ∧ n ≤ hi)) := by
 unfold spec_l00In.f
 by_cases h : n ≥ lo
 ·rw [if_pos h]; congr 1; by_cases h2 : n ≤ hi <;> simp [h, h2]
 ·rw [if_neg h]; congr 1; simp; omega
theorem wr {x : Int} (h1 : -9223372036854775808 ≤ x) (h2 : x ≤ 9223372036854775807) : wrap64 x = x := by
 unfold wrap64; omega
theorem rd_nat (xs : List Int) (i : Nat) (h : i < xs.length) : rd xs (i : Int) = xs[i] := by
 simp [rd, h]
mutual
def textI.l0 : Nat → S46 → List ByteArray → Int → Option ByteArray
 | 0, _, _, _ => none
 | k + 1, x, out, i => if i < (x.f2.length : Int) then (if 0 ≤ i then ((textI.f k (rd_T46 x.f2 i)).bind fun t => if out.length < 1048576 then textI.l0 k x (out ++ [t]) (wrap64 (i + 1)) else none) else none) else ((impl_decimal.f x.f1).bind fun d => if d.size ≤ 1000000000 then (if (joinB out).size ≤ 1000000000 then (if out.length ≤ 1000000000 then some (((d ++ (⟨#[40]⟩ : ByteArray)) ++ joinB out) ++ (⟨#[41]⟩ : ByteArray)) else none) else none) else none)
def textI.f : Nat → S46 → Option ByteArray
 | 0, _ => none
 | k + 1, x => if (x.f2.length : Int) = 0 then impl_groupText.f k [x.f0] else textI.l0 k x [] 0
end
set_option maxHeartbeats 8000000 in
set_option maxRecDepth 100000 in
theorem textI.calls (k : Nat) : ∀ (x : S46) (A : Option Addr) (c : Nat) (r : ByteArray) (w : World) (hr : Kd.C k46 w A x.f2.length x.f2) (hc : x.f2.length ≤ c) (h : textI.f k x = some r),
  Calls Tryd.prog 53 #[.agg #[.int .i64 x.f0, .int .i64 x.f1, .slice A x.f2.length c]] w fun e w' => e = .returned (.string r) ∧ Below w.heap.size w w' := by
 induction k using Nat.strongRecOn with
 | _ k ih =>
 intro x A c r w hr hc h
 cases k with
 | zero => exact absurd h (by simp [textI.f])
 | succ k =>
 simp only [textI.f] at h
 have IH := Aside0.mk ih
 have HR := Aside0.mk hr
 have HC := Aside0.mk hc
 have HB := Aside0.mk (Below.refl w.heap.size w)
 have hu29 := Tryd.underlying46
 clear ih hr hc
 by_cases c0 : (x.f2.length : Int) = 0
 ·rw [if_pos c0] at h
  have A1 := Aside0.mk h
  clear h
  have AL : Aside0 (impl_Gate_isLeaf.f x.f0 x.f1 x.f2 = some true) := ⟨by unfold impl_Gate_isLeaf.f; rw [c0]; rfl⟩
  clear c0
  go_enter Tryd.func53, Tryd.ntmps53
  go_wp2_with (first | ((with_reducible refine gate_dst (N := 1) rfl ?_); refine box_event ?hg (N := 1) ?hd (cs := #[.int .i64 x.f0, .int .i64 x.f1, .slice A x.f2.length c]) (t := 46) ?hr ?_; (case hd => rfl); (case hg => rfl); (case hr => first | (go_simp; done) | (go_simp; rfl)); intro g1 hg w1 hbox hb; have n0_ := Aside0.mk (below_step (by repeat (first | (with_reducible first | exact HB.out | apply below_alloc | apply pw_below_drewN | apply below_drew1) | exact HB.out)) hb); have GW_g1 := Aside0.mk ((by rw [hg]; exact below_size (by repeat (first | (with_reducible first | exact HB.out | apply below_alloc | apply pw_below_drewN | apply below_drew1) | exact HB.out))) : w.heap.size ≤ g1); clear HB ; have HB := n0_; clear n0_; have BK_g1 := Aside0.mk hbox; clear hbox hb hg; have hz_g10 : w1.cell? ⟨g1, 0, none⟩ = some (.int .i64 x.f0) := (blk_cell BK_g1.out 0).trans rfl; have hz_g1f0 := blk_frozen BK_g1.out 0; have hz_g11 : w1.cell? ⟨g1, 1, none⟩ = some (.int .i64 x.f1) := (blk_cell BK_g1.out 1).trans rfl; have hz_g1f1 := blk_frozen BK_g1.out 1; have hz_g12 : w1.cell? ⟨g1, 2, none⟩ = some (.slice A x.f2.length c) := (blk_cell BK_g1.out 2).trans rfl; have hz_g1f2 := blk_frozen BK_g1.out 2) | (go_at_call 94; (with_reducible refine (impl_Gate_isLeaf.calls x.f0 x.f1 _ _ x.f2 true _ ?side1 ?side2 AL.out).mono ?_); (case side1 => exact Kd.C_below HR.out (by repeat (first | (with_reducible first | exact HB.out | apply below_alloc | apply pw_below_drewN | apply below_drew1) | exact HB.out))); (case side2 => exact HC.out); rintro e w3 ⟨rfl, hb⟩; have n0_ := Aside0.mk (below_step (by repeat (first | (with_reducible first | exact HB.out | apply below_alloc | apply pw_below_drewN | apply below_drew1) | exact HB.out)) hb); have n1_ := Aside0.mk (blk_below (g := g1) (o := .cells #[.int .i64 x.f0, .int .i64 x.f1, .slice A x.f2.length c] 46 (0, 0)) (by (with_reducible repeat (first | refine blk_drewN ?_ _ | refine blk_drew ?_ | refine blk_alloc ?_ _)); exact BK_g1.out) hb); clear HB BK_g1 hz_g10 hz_g1f0 hz_g11 hz_g1f1 hz_g12 hz_g1f2 hb; have HB := n0_; have BK_g1 := n1_; clear n0_ n1_; have hz_g10 : w3.cell? ⟨g1, 0, none⟩ = some (.int .i64 x.f0) := (blk_cell BK_g1.out 0).trans rfl; have hz_g1f0 := blk_frozen BK_g1.out 0; have hz_g11 : w3.cell? ⟨g1, 1, none⟩ = some (.int .i64 x.f1) := (blk_cell BK_g1.out 1).trans rfl; have hz_g1f1 := blk_frozen BK_g1.out 1; have hz_g12 : w3.cell? ⟨g1, 2, none⟩ = some (.slice A x.f2.length c) := (blk_cell BK_g1.out 2).trans rfl; have hz_g1f2 := blk_frozen BK_g1.out 2) | ((with_reducible refine gate_dst (N := 10) rfl ?_); refine Kd.R_lit (Kd.int .i64) _ 2 ?hg (N := 10) ?hd (xs := [x.f0]) (inner := [.int .i64 x.f0]) (ok := fun _ => True) (okp := fun _ => True) ?hr ?hp (fun _ hk => hk) trivial (Below.refl _ _) (Nat.le_refl _) (by simp) ?_; (case hd => rfl); (case hg => rfl); (case hr => first | (go_simp; done) | (go_simp; rfl)); (case hp => exact (Reps.one (show Kd.M (Kd.int .i64) _ _ _ x.f0 [.int .i64 x.f0] from rfl) (Reps.none _ _))); intro v10 w4 ho hb hg_ hnew_; clear hg_ hnew_; have HO := Aside0.mk ho; obtain ⟨Av, cv, ev⟩ := Kd.R_slice HO.out; subst ev; clear ho; have n0_ := Aside0.mk (below_step (by repeat (first | (with_reducible first | exact HB.out | apply below_alloc | apply pw_below_drewN | apply below_drew1) | exact HB.out)) hb); have n1_ := Aside0.mk (blk_below (g := g1) (o := .cells #[.int .i64 x.f0, .int .i64 x.f1, .slice A x.f2.length c] 46 (0, 0)) (by (with_reducible repeat (first | refine blk_drewN ?_ _ | refine blk_drew ?_ | refine blk_alloc ?_ _)); exact BK_g1.out) hb); clear HB BK_g1 hz_g10 hz_g1f0 hz_g11 hz_g1f1 hz_g12 hz_g1f2 hb; have HB := n0_; have BK_g1 := n1_; clear n0_ n1_; have hz_g10 : w4.cell? ⟨g1, 0, none⟩ = some (.int .i64 x.f0) := (blk_cell BK_g1.out 0).trans rfl; have hz_g1f0 := blk_frozen BK_g1.out 0; have hz_g11 : w4.cell? ⟨g1, 1, none⟩ = some (.int .i64 x.f1) := (blk_cell BK_g1.out 1).trans rfl; have hz_g1f1 := blk_frozen BK_g1.out 1; have hz_g12 : w4.cell? ⟨g1, 2, none⟩ = some (.slice A x.f2.length c) := (blk_cell BK_g1.out 2).trans rfl; have hz_g1f2 := blk_frozen BK_g1.out 2) | (go_at_call 47; (refine (impl_groupText.calls k Av cv [x.f0] r _ ?side1 ?side2 A1.out).mono ?_); (case side1 => exact (Kd.R_reads' (by (with_reducible repeat (first | apply Kd.R_alloc | apply Kd.R_drewN | apply Kd.R_drew)); exact HO.out)).2.2); (case side2 => exact (Kd.R_reads' HO.out).2.1); rintro e w5 ⟨rfl, hb⟩; have n0_ := Aside0.mk (below_step (by repeat (first | (with_reducible first | exact HB.out | apply below_alloc | apply pw_below_drewN | apply below_drew1) | exact HB.out)) hb); clear HB hb; have HB := n0_; clear n0_))
  go_ret
  exact ⟨rfl, (by repeat (first | (with_reducible first | exact HB.out | apply below_alloc | apply pw_below_drewN | apply below_drew1) | exact HB.out))⟩
 ·rw [if_neg c0] at h
  have A1 := Aside0.mk h
  clear h
  have AL : Aside0 (impl_Gate_isLeaf.f x.f0 x.f1 x.f2 = some false) := ⟨by unfold impl_Gate_isLeaf.f; rw [beq_eq_false_iff_ne.mpr c0]⟩
  clear c0
  go_enter Tryd.func53, Tryd.ntmps53
  go_wp2_with (first | ((with_reducible refine gate_dst (N := 1) rfl ?_); refine box_event ?hg (N := 1) ?hd (cs := #[.int .i64 x.f0, .int .i64 x.f1, .slice A x.f2.length c]) (t := 46) ?hr ?_; (case hd => rfl); (case hg => rfl); (case hr => first | (go_simp; done) | (go_simp; rfl)); intro g1 hg w1 hbox hb; have n0_ := Aside0.mk (below_step (by repeat (first | (with_reducible first | exact HB.out | apply below_alloc | apply pw_below_drewN | apply below_drew1) | exact HB.out)) hb); have GW_g1 := Aside0.mk ((by rw [hg]; exact below_size (by repeat (first | (with_reducible first | exact HB.out | apply below_alloc | apply pw_below_drewN | apply below_drew1) | exact HB.out))) : w.heap.size ≤ g1); clear HB ; have HB := n0_; clear n0_; have BK_g1 := Aside0.mk hbox; clear hbox hb hg; have hz_g10 : w1.cell? ⟨g1, 0, none⟩ = some (.int .i64 x.f0) := (blk_cell BK_g1.out 0).trans rfl; have hz_g1f0 := blk_frozen BK_g1.out 0; have hz_g11 : w1.cell? ⟨g1, 1, none⟩ = some (.int .i64 x.f1) := (blk_cell BK_g1.out 1).trans rfl; have hz_g1f1 := blk_frozen BK_g1.out 1; have hz_g12 : w1.cell? ⟨g1, 2, none⟩ = some (.slice A x.f2.length c) := (blk_cell BK_g1.out 2).trans rfl; have hz_g1f2 := blk_frozen BK_g1.out 2) | (go_at_call 94; (with_reducible refine (impl_Gate_isLeaf.calls x.f0 x.f1 _ _ x.f2 false _ ?side1 ?side2 AL.out).mono ?_); (case side1 => exact Kd.C_below HR.out (by repeat (first | (with_reducible first | exact HB.out | apply below_alloc | apply pw_below_drewN | apply below_drew1) | exact HB.out))); (case side2 => exact HC.out); rintro e w3 ⟨rfl, hb⟩; have n0_ := Aside0.mk (below_step (by repeat (first | (with_reducible first | exact HB.out | apply below_alloc | apply pw_below_drewN | apply below_drew1) | exact HB.out)) hb); have n1_ := Aside0.mk (blk_below (g := g1) (o := .cells #[.int .i64 x.f0, .int .i64 x.f1, .slice A x.f2.length c] 46 (0, 0)) (by (with_reducible repeat (first | refine blk_drewN ?_ _ | refine blk_drew ?_ | refine blk_alloc ?_ _)); exact BK_g1.out) hb); clear HB BK_g1 hz_g10 hz_g1f0 hz_g11 hz_g1f1 hz_g12 hz_g1f2 hb; have HB := n0_; have BK_g1 := n1_; clear n0_ n1_; have hz_g10 : w3.cell? ⟨g1, 0, none⟩ = some (.int .i64 x.f0) := (blk_cell BK_g1.out 0).trans rfl; have hz_g1f0 := blk_frozen BK_g1.out 0; have hz_g11 : w3.cell? ⟨g1, 1, none⟩ = some (.int .i64 x.f1) := (blk_cell BK_g1.out 1).trans rfl; have hz_g1f1 := blk_frozen BK_g1.out 1; have hz_g12 : w3.cell? ⟨g1, 2, none⟩ = some (.slice A x.f2.length c) := (blk_cell BK_g1.out 2).trans rfl; have hz_g1f2 := blk_frozen BK_g1.out 2) | ((with_reducible refine gate_dst (N := 12) rfl ?_); refine Kd.R_lit Kd.string _ 9 ?hg (N := 12) ?hd (xs := ([] : List ByteArray)) (inner := []) (ok := fun k_ => g1 < k_) (okp := fun k_ => g1 < k_) ?hr ?hp (fun _ hk => hk) (blk_lt (o := .cells #[.int .i64 x.f0, .int .i64 x.f1, .slice A x.f2.length c] 46 (0, 0)) (by (with_reducible repeat (first | refine blk_drewN ?_ _ | refine blk_drew ?_ | refine blk_alloc ?_ _)); exact BK_g1.out)) (Below.refl _ _) (Nat.le_refl _) (by simp) ?_; (case hd => rfl); (case hg => rfl); (case hr => first | (go_simp; done) | (go_simp; rfl)); (case hp => exact (Reps.none _ _)); intro v12 w4 ho3 hb hg_ hnew_; clear hg_ hnew_; have HO := Aside0.mk (Kd.R_lower (base' := w.heap.size) ho3 (below_size (by repeat (first | (with_reducible first | exact HB.out | apply below_alloc | apply pw_below_drewN | apply below_drew1) | exact HB.out)))); clear ho3; have n0_ := Aside0.mk (below_step (by repeat (first | (with_reducible first | exact HB.out | apply below_alloc | apply pw_below_drewN | apply below_drew1) | exact HB.out)) hb); have n1_ := Aside0.mk (blk_below (g := g1) (o := .cells #[.int .i64 x.f0, .int .i64 x.f1, .slice A x.f2.length c] 46 (0, 0)) (by (with_reducible repeat (first | refine blk_drewN ?_ _ | refine blk_drew ?_ | refine blk_alloc ?_ _)); exact BK_g1.out) hb); clear HB BK_g1 hz_g10 hz_g1f0 hz_g11 hz_g1f1 hz_g12 hz_g1f2 hb; have HB := n0_; have BK_g1 := n1_; clear n0_ n1_; have hz_g10 : w4.cell? ⟨g1, 0, none⟩ = some (.int .i64 x.f0) := (blk_cell BK_g1.out 0).trans rfl; have hz_g1f0 := blk_frozen BK_g1.out 0; have hz_g11 : w4.cell? ⟨g1, 1, none⟩ = some (.int .i64 x.f1) := (blk_cell BK_g1.out 1).trans rfl; have hz_g1f1 := blk_frozen BK_g1.out 1; have hz_g12 : w4.cell? ⟨g1, 2, none⟩ = some (.slice A x.f2.length c) := (blk_cell BK_g1.out 2).trans rfl; have hz_g1f2 := blk_frozen BK_g1.out 2))
  go_loopg [3, 16] k (fun kq v3 v16 w' => ∃ (i : Int) (out : List ByteArray), v16 = .int .i64 i ∧ Aside0 (textI.l0 kq x out i = some r) ∧ Aside0 (kq ≤ k) ∧ Aside0 (Kd.R Kd.string 9 w' w.heap.size (fun k_ => g1 < k_) v3 out) ∧ Aside0 (w'.heap[g1]? = some (.cells #[.int .i64 x.f0, .int .i64 x.f1, .slice A x.f2.length c] 46 (0, 0))) ∧ Aside0 (Below w.heap.size w w'))
  case atStart => exact ⟨0, [], rfl, A1, ⟨Nat.le_refl _⟩, ⟨(by (with_reducible repeat (first | apply Kd.R_alloc | apply Kd.R_drewN | apply Kd.R_drew)); exact HO.out)⟩, ⟨(by (with_reducible repeat (first | refine blk_drewN ?_ _ | refine blk_drew ?_ | refine blk_alloc ?_ _)); exact BK_g1.out)⟩, ⟨(by repeat (first | (with_reducible first | exact HB.out | apply below_alloc | apply pw_below_drewN | apply below_drew1) | exact HB.out))⟩⟩
  case round =>
   clear A1 HO BK_g1 HB hz_g10 hz_g1f0 hz_g11 hz_g1f1 hz_g12 hz_g1f2
   obtain ⟨i, out, rfl, HA, HK1, HO, BK_g1, HB⟩ := hrel
   have hz_g10 : wr.cell? ⟨g1, 0, none⟩ = some (.int .i64 x.f0) := (blk_cell BK_g1.out 0).trans rfl
   have hz_g1f0 := blk_frozen BK_g1.out 0
   have hz_g11 : wr.cell? ⟨g1, 1, none⟩ = some (.int .i64 x.f1) := (blk_cell BK_g1.out 1).trans rfl
   have hz_g1f1 := blk_frozen BK_g1.out 1
   have hz_g12 : wr.cell? ⟨g1, 2, none⟩ = some (.slice A x.f2.length c) := (blk_cell BK_g1.out 2).trans rfl
   have hz_g1f2 := blk_frozen BK_g1.out 2
   cases gk with
   | zero => exact absurd HA.out (by simp [textI.l0])
   | succ k1 =>
    have H' := HA.out
    clear HA
    simp only [textI.l0] at H'
    by_cases c6 : i < (x.f2.length : Int)
    ·rw [if_pos c6] at H'
     by_cases c7 : 0 ≤ i
     case neg => rw [if_neg c7] at H'; exact absurd H' (by simp)
     rw [if_pos c7] at H'
     replace H' := Option.bind_eq_some_iff.mp H'
     obtain ⟨t, At, H'⟩ := H'
     have A7 := Aside0.mk At
     clear At
     by_cases c8 : out.length < 1048576
     case neg => rw [if_neg c8] at H'; exact absurd H' (by simp)
     rw [if_pos c8] at H'
     have LM := Aside0.mk c8
     have HF := Aside0.mk H'
     clear H' c8
     have c6b0 : decide (i < (x.f2.length : Int)) = true := decide_eq_true c6
     have c7b0 : decide (0 ≤ i) = true := decide_eq_true c7
     obtain ⟨ad, A2, c2, e3, hx0, hx1, hx2, hl2, hi2⟩ := at_T46 HR.out i c7 c6
     cases e3
     replace hx0 := (HB.out.cell (World.block_lt_of_cell? w _ hx0)).trans hx0
     replace hx1 := (HB.out.cell (World.block_lt_of_cell? w _ hx1)).trans hx1
     replace hx2 := (HB.out.cell (World.block_lt_of_cell? w _ hx2)).trans hx2
     have HI2 := Aside0.mk hi2
     have HL2 := Aside0.mk hl2
     clear hi2 hl2
     replace c7 := eq_true c7
     replace c6 := eq_true c6
     go_wp2_with (first | ((with_reducible refine gate_dst (N := 5) rfl ?_); refine box_event ?hg (N := 5) ?hd (cs := #[.int .i64 0, .int .i64 0, .slice none 0 0]) (t := 46) ?hr ?_; (case hd => rfl); (case hg => rfl); (case hr => first | (go_simp; done) | (go_simp; rfl)); intro gz hg w5 hbox hb; have GW_gz := Aside0.mk ((by rw [hg]; exact below_size (by repeat (first | (with_reducible first | exact HB.out | apply below_alloc | apply pw_below_drewN | apply below_drew1) | exact HB.out))) : w.heap.size ≤ gz); have HLz : Aside0 (g1 < gz) := ⟨by rw [hg]; exact blk_lt (o := .cells #[.int .i64 x.f0, .int .i64 x.f1, .slice (some ad) x.f2.length c] 46 (0, 0)) (by (with_reducible repeat (first | refine blk_drewN ?_ _ | refine blk_drew ?_ | refine blk_alloc ?_ _)); exact BK_g1.out)⟩; have n0_ := Aside0.mk (below_step (by repeat (first | (with_reducible first | exact HB.out | apply below_alloc | apply pw_below_drewN | apply below_drew1) | exact HB.out)) hb); have n1_ := Aside0.mk (blk_below (g := g1) (o := .cells #[.int .i64 x.f0, .int .i64 x.f1, .slice (some ad) x.f2.length c] 46 (0, 0)) (by (with_reducible repeat (first | refine blk_drewN ?_ _ | refine blk_drew ?_ | refine blk_alloc ?_ _)); exact BK_g1.out) hb); have n2_ := Aside0.mk (Kd.R_below (Kd.R_mono (Kd.R_bound (by (with_reducible repeat (first | apply Kd.R_alloc | apply Kd.R_drewN | apply Kd.R_drew)); exact HO.out)) (ok' := fun k_ => g1 < k_ ∧ k_ ≠ gz) (fun k_ hk_ => ⟨hk_.1, by have h_ := hk_.2.2.1; intro he_; rw [he_, hg] at h_; exact Nat.lt_irrefl _ h_⟩)) hb); clear HB BK_g1 HO hz_g10 hz_g1f0 hz_g11 hz_g1f1 hz_g12 hz_g1f2 hb; have HB := n0_; have BK_g1 := n1_; have HO := n2_; clear n0_ n1_ n2_; have BK_gz := Aside0.mk hbox; clear hbox hg; have hz_gz0 : w5.cell? ⟨gz, 0, none⟩ = some (.int .i64 0) := (blk_cell BK_gz.out 0).trans rfl; have hz_gzf0 := blk_frozen BK_gz.out 0; have hz_gz1 : w5.cell? ⟨gz, 1, none⟩ = some (.int .i64 0) := (blk_cell BK_gz.out 1).trans rfl; have hz_gzf1 := blk_frozen BK_gz.out 1; have hz_gz2 : w5.cell? ⟨gz, 2, none⟩ = some (.slice none 0 0) := (blk_cell BK_gz.out 2).trans rfl; have hz_gzf2 := blk_frozen BK_gz.out 2) | (go_at_call 53; (refine (IH.out k1 (by have := HK1.out; omega) (rd_T46 x.f2 i) A2 c2 t _ ?sR HL2.out A7.out).mono ?_); (case sR => exact Kd.C_below HI2.out (show Below w.heap.size w _ from (by repeat (first | (with_reducible first | exact HB.out | apply below_alloc | apply pw_below_drewN | apply below_drew1 | refine below_set ?_ GW_gz.out) | exact HB.out)))); rintro e w6 ⟨rfl, hb⟩; have n0_ := Aside0.mk (below_step (show Below w.heap.size w _ from (by repeat (first | (with_reducible first | exact HB.out | apply below_alloc | apply pw_below_drewN | apply below_drew1 | refine below_set ?_ GW_gz.out) | exact HB.out))) hb); have n1_ := Aside0.mk (blk_below (g := g1) (o := .cells #[.int .i64 x.f0, .int .i64 x.f1, .slice (some ad) x.f2.length c] 46 (0, 0)) (blk_far (p := ⟨gz, 2, none⟩) (blk_far (p := ⟨gz, 1, none⟩) (blk_far (p := ⟨gz, 0, none⟩) BK_g1.out (by have := HLz.out; show g1 ≠ gz; omega) _) (by have := HLz.out; show g1 ≠ gz; omega) _) (by have := HLz.out; show g1 ≠ gz; omega) _) hb); have n2_ := Aside0.mk (Kd.R_mono (Kd.R_below (Kd.R_far (p := ⟨gz, 2, none⟩) (Kd.R_far (p := ⟨gz, 1, none⟩) (Kd.R_far (p := ⟨gz, 0, none⟩) HO.out (fun _ hk_ => hk_.2) _) (fun _ hk_ => hk_.2) _) (fun _ hk_ => hk_.2) _) hb) (fun _ hk_ => hk_.1)); clear HB BK_g1 HO BK_gz hb; have HB := n0_; have BK_g1 := n1_; have HO := n2_; clear n0_ n1_ n2_) | ((with_reducible refine gate_builtin (b := .append) (xs := #[.tmp 20, .tmp 23]) rfl ?_); at_builtin; refine Kd.R_append Kd.string (w0 := w) w.heap.size rfl (.tmp 20) (.tmp 23) 90 9 (.string (⟨#[]⟩ : ByteArray)) 16 rfl Tryd.underlying90 info9 rfl (by decide) (by omega) u3 out t [.string t] (fun k_ => g1 < k_) (fun _ => False) rfl rfl ?aP (fun _ hk => hk.elim) ?aF ?aO ?aB ?aS ?aL ?_; (case aP => exact rfl); (case aF => exact fun k_ hk_ => Nat.lt_of_lt_of_le (blk_lt BK_g1.out) hk_); (case aO => exact HO.out); (case aB => exact HB.out); (case aS => exact below_size HB.out); (case aL => have := LM.out; omega); intro v7b w7 ho hb hg hat; have n1_ := Aside0.mk (blk_grown (g := g1) (o := .cells #[.int .i64 x.f0, .int .i64 x.f1, .slice (some ad) x.f2.length c] 46 (0, 0)) BK_g1.out hg (fun e_ => Nat.lt_irrefl _ (HO.out.1 g1 e_.symm))); have HO7 := Aside0.mk ho; have HB7 := Aside0.mk hb; have B17 := n1_; clear n1_ ho hb hg hat HO BK_g1 HB))
     go_roundg k1
     case measure => have := HK1.out; omega
     case rel => exact ⟨_, out ++ [t], rfl, HF, ⟨by have := HK1.out; omega⟩, HO7, B17, HB7⟩
    ·rw [if_neg c6] at H'
     replace H' := Option.bind_eq_some_iff.mp H'
     obtain ⟨d, At, H'⟩ := H'
     have A8 := Aside0.mk At
     clear At
     by_cases c8 : d.size ≤ 1000000000
     case neg => rw [if_neg c8] at H'; exact absurd H' (by simp)
     rw [if_pos c8] at H'
     by_cases c9 : (joinB out).size ≤ 1000000000
     case neg => rw [if_neg c9] at H'; exact absurd H' (by simp)
     rw [if_pos c9] at H'
     by_cases c10 : out.length ≤ 1000000000
     case neg => rw [if_neg c10] at H'; exact absurd H' (by simp)
     rw [if_pos c10] at H'
     obtain rfl := Option.some.inj H'
     clear H'
     have c6b0 : decide (i < (x.f2.length : Int)) = false := decide_eq_false c6
     clear c6
     have HZ := Aside0.mk (And.intro c9 c10)
     have bs1 : ∀ u_ : UInt8, (⟨#[u_]⟩ : ByteArray).size = 1 := fun _ => rfl
     have bs2 : ∀ u_ v_ : UInt8, (⟨#[u_, v_]⟩ : ByteArray).size = 2 := fun _ _ => rfl
     have sz0a : (9223372036854775807 < d.size + 1) = False := eq_false (by omega)
     have sz0b : decide (d.size + 1 ≤ 9223372036854775807) = true := decide_eq_true (by omega)
     have sz1a : (9223372036854775807 < d.size + 1 + (joinB out).size) = False := eq_false (by omega)
     have sz1b : decide (d.size + 1 + (joinB out).size ≤ 9223372036854775807) = true := decide_eq_true (by omega)
     have sz2a : (9223372036854775807 < (d ++ (⟨#[40]⟩ : ByteArray)).size + (joinB out).size) = False := eq_false (by simp only [ByteArray.size_append, bs1]; omega)
     have sz2b : decide ((d ++ (⟨#[40]⟩ : ByteArray)).size + (joinB out).size ≤ 9223372036854775807) = true := decide_eq_true (by simp only [ByteArray.size_append, bs1]; omega)
     have sz3a : (9223372036854775807 < d.size + 1 + (joinB out).size + 1) = False := eq_false (by omega)
     have sz3b : decide (d.size + 1 + (joinB out).size + 1 ≤ 9223372036854775807) = true := decide_eq_true (by omega)
     have sz4a : (9223372036854775807 < ((d ++ (⟨#[40]⟩ : ByteArray)) ++ joinB out).size + 1) = False := eq_false (by simp only [ByteArray.size_append, bs1]; omega)
     have sz4b : decide (((d ++ (⟨#[40]⟩ : ByteArray)) ++ joinB out).size + 1 ≤ 9223372036854775807) = true := decide_eq_true (by simp only [ByteArray.size_append, bs1]; omega)
     clear c8 c9 c10 bs1 bs2
     obtain ⟨Ao, co, eo⟩ := Kd.R_slice HO.out
     subst eo
     go_wp2_with (first | (go_at_call 46; (with_reducible refine (impl_decimal.calls x.f1 d _ A8.out).mono ?_); rintro e w' ⟨rfl, ⟨nd, rfl⟩⟩) | (go_at_call 95; (refine (join_calls (base := w.heap.size) (ok := fun k_ => g1 < k_) Ao co out _ ?sR ?sL ?sN).mono ?_); (case sR => exact (by (with_reducible repeat (first | apply Kd.R_alloc | apply Kd.R_drewN | apply Kd.R_drew)); exact HO.out)); (case sL => have := HZ.out.1; omega); (case sN => have := HZ.out.2; omega); rintro e w9 ⟨rfl, hb⟩; have n0_ := Aside0.mk (below_step (by repeat (first | (with_reducible first | exact HB.out | apply below_alloc | apply pw_below_drewN | apply below_drew1) | exact HB.out)) hb); clear HB hb; have HB := n0_; clear n0_))
     go_ret
     exact ⟨by first | rfl | (simp; done), (by repeat (first | (with_reducible first | exact HB.out | apply below_alloc | apply pw_below_drewN | apply below_drew1) | exact HB.out))⟩
def impl_GateText.f (k : Nat) (a0 : Int) (a1_0 : Int) (a1_1 : Int) (l1_2 : List S46) : Option ByteArray := (impl_ValidGate.f k a0 a1_0 a1_1 l1_2).bind fun t => (if t = true then textI.f k ⟨a1_0, a1_1, l1_2⟩ else some (⟨#[]⟩ : ByteArray))
set_option maxHeartbeats 8000000 in
set_option maxRecDepth 100000 in
theorem impl_GateText.calls (k : Nat) (a0 : Int) (a1_0 : Int) (a1_1 : Int) (A1_2 : Option Addr) (c1_2 : Nat) (l1_2 : List S46) (r : ByteArray) (w : World) (hr1_2 : Kd.C k46 w A1_2 l1_2.length l1_2) (hc1_2 : l1_2.length ≤ c1_2) (h : impl_GateText.f k a0 a1_0 a1_1 l1_2 = some r) :
  Calls Tryd.prog 22 #[.int .i64 a0, .agg #[.int .i64 a1_0, .int .i64 a1_1, .slice A1_2 l1_2.length c1_2]] w fun e w' => e = .returned (.string r) ∧ Below w.heap.size w w' := by
 have hu29 := Tryd.underlying46
 have HR := Aside0.mk hr1_2
 have HC := Aside0.mk hc1_2
 clear hr1_2 hc1_2
 have HB := Aside0.mk (Below.refl w.heap.size w)
 unfold impl_GateText.f at h
 replace h := Option.bind_eq_some_iff.mp h
 obtain ⟨t, At, H⟩ := h
 have A3 := Aside0.mk At
 clear At
 by_cases c4 : t = true
 ·subst c4
  rw [if_pos rfl] at H
  have A4 := Aside0.mk H
  clear H
  go_enter Tryd.func22, Tryd.ntmps22
  go_wp2_with (first | ((with_reducible refine gate_dst (N := 3) rfl ?_); refine box_event ?hg (N := 3) ?hd (cs := #[.int .i64 a1_0, .int .i64 a1_1, .slice A1_2 l1_2.length c1_2]) (t := 46) ?hr ?_; (case hd => rfl); (case hg => rfl); (case hr => first | (go_simp; done) | (go_simp; rfl)); intro g3 hg w1 hbox hb; have n0_ := Aside0.mk (below_step (by repeat (first | (with_reducible first | exact HB.out | apply below_alloc | apply pw_below_drewN | apply below_drew1) | exact HB.out)) hb); have GW_g3 := Aside0.mk ((by rw [hg]; exact below_size (by repeat (first | (with_reducible first | exact HB.out | apply below_alloc | apply pw_below_drewN | apply below_drew1) | exact HB.out))) : w.heap.size ≤ g3); clear HB ; have HB := n0_; clear n0_; have BK_g3 := Aside0.mk hbox; clear hbox hb hg; have hz_g30 : w1.cell? ⟨g3, 0, none⟩ = some (.int .i64 a1_0) := (blk_cell BK_g3.out 0).trans rfl; have hz_g3f0 := blk_frozen BK_g3.out 0; have hz_g31 : w1.cell? ⟨g3, 1, none⟩ = some (.int .i64 a1_1) := (blk_cell BK_g3.out 1).trans rfl; have hz_g3f1 := blk_frozen BK_g3.out 1; have hz_g32 : w1.cell? ⟨g3, 2, none⟩ = some (.slice A1_2 l1_2.length c1_2) := (blk_cell BK_g3.out 2).trans rfl; have hz_g3f2 := blk_frozen BK_g3.out 2) | (go_at_call 52; (with_reducible refine (impl_ValidGate.calls k a0 a1_0 a1_1 _ _ l1_2 true _ ?side1 ?side2 A3.out).mono ?_); (case side1 => exact Kd.C_below HR.out (by repeat (first | (with_reducible first | exact HB.out | apply below_alloc | apply pw_below_drewN | apply below_drew1) | exact HB.out))); (case side2 => exact HC.out); rintro e w5 ⟨rfl, hb⟩; have n0_ := Aside0.mk (below_step (by repeat (first | (with_reducible first | exact HB.out | apply below_alloc | apply pw_below_drewN | apply below_drew1) | exact HB.out)) hb); have n1_ := Aside0.mk (blk_below (g := g3) (o := .cells #[.int .i64 a1_0, .int .i64 a1_1, .slice A1_2 l1_2.length c1_2] 46 (0, 0)) (by (with_reducible repeat (first | refine blk_drewN ?_ _ | refine blk_drew ?_ | refine blk_alloc ?_ _)); exact BK_g3.out) hb); clear HB BK_g3 hz_g30 hz_g3f0 hz_g31 hz_g3f1 hz_g32 hz_g3f2 hb; have HB := n0_; have BK_g3 := n1_; clear n0_ n1_; have hz_g30 : w5.cell? ⟨g3, 0, none⟩ = some (.int .i64 a1_0) := (blk_cell BK_g3.out 0).trans rfl; have hz_g3f0 := blk_frozen BK_g3.out 0; have hz_g31 : w5.cell? ⟨g3, 1, none⟩ = some (.int .i64 a1_1) := (blk_cell BK_g3.out 1).trans rfl; have hz_g3f1 := blk_frozen BK_g3.out 1; have hz_g32 : w5.cell? ⟨g3, 2, none⟩ = some (.slice A1_2 l1_2.length c1_2) := (blk_cell BK_g3.out 2).trans rfl; have hz_g3f2 := blk_frozen BK_g3.out 2) | (go_at_call 53; (with_reducible refine (textI.calls k ⟨a1_0, a1_1, l1_2⟩ A1_2 c1_2 r _ ?sR HC.out A4.out).mono ?_); (case sR => exact Kd.C_below HR.out (by repeat (first | (with_reducible first | exact HB.out | apply below_alloc | apply pw_below_drewN | apply below_drew1) | exact HB.out))); rintro e w6 ⟨rfl, hb⟩; have n0_ := Aside0.mk (below_step (by repeat (first | (with_reducible first | exact HB.out | apply below_alloc | apply pw_below_drewN | apply below_drew1) | exact HB.out)) hb); clear HB hb; have HB := n0_; clear n0_))
  go_ret
  exact ⟨rfl, (by repeat (first | (with_reducible first | exact HB.out | apply below_alloc | apply pw_below_drewN | apply below_drew1) | exact HB.out))⟩
 ·replace c4 := Bool.eq_false_iff.mpr c4
  subst c4
  rw [if_neg (show ¬ (false = true) by decide)] at H
  obtain rfl := Option.some.inj H
  clear H
  go_enter Tryd.func22, Tryd.ntmps22
  go_wp2_with (first | ((with_reducible refine gate_dst (N := 3) rfl ?_); refine box_event ?hg (N := 3) ?hd (cs := #[.int .i64 a1_0, .int .i64 a1_1, .slice A1_2 l1_2.length c1_2]) (t := 46) ?hr ?_; (case hd => rfl); (case hg => rfl); (case hr => first | (go_simp; done) | (go_simp; rfl)); intro g3 hg w1 hbox hb; have n0_ := Aside0.mk (below_step (by repeat (first | (with_reducible first | exact HB.out | apply below_alloc | apply pw_below_drewN | apply below_drew1) | exact HB.out)) hb); have GW_g3 := Aside0.mk ((by rw [hg]; exact below_size (by repeat (first | (with_reducible first | exact HB.out | apply below_alloc | apply pw_below_drewN | apply below_drew1) | exact HB.out))) : w.heap.size ≤ g3); clear HB ; have HB := n0_; clear n0_; have BK_g3 := Aside0.mk hbox; clear hbox hb hg; have hz_g30 : w1.cell? ⟨g3, 0, none⟩ = some (.int .i64 a1_0) := (blk_cell BK_g3.out 0).trans rfl; have hz_g3f0 := blk_frozen BK_g3.out 0; have hz_g31 : w1.cell? ⟨g3, 1, none⟩ = some (.int .i64 a1_1) := (blk_cell BK_g3.out 1).trans rfl; have hz_g3f1 := blk_frozen BK_g3.out 1; have hz_g32 : w1.cell? ⟨g3, 2, none⟩ = some (.slice A1_2 l1_2.length c1_2) := (blk_cell BK_g3.out 2).trans rfl; have hz_g3f2 := blk_frozen BK_g3.out 2) | (go_at_call 52; (with_reducible refine (impl_ValidGate.calls k a0 a1_0 a1_1 _ _ l1_2 false _ ?side1 ?side2 A3.out).mono ?_); (case side1 => exact Kd.C_below HR.out (by repeat (first | (with_reducible first | exact HB.out | apply below_alloc | apply pw_below_drewN | apply below_drew1) | exact HB.out))); (case side2 => exact HC.out); rintro e w5 ⟨rfl, hb⟩; have n0_ := Aside0.mk (below_step (by repeat (first | (with_reducible first | exact HB.out | apply below_alloc | apply pw_below_drewN | apply below_drew1) | exact HB.out)) hb); have n1_ := Aside0.mk (blk_below (g := g3) (o := .cells #[.int .i64 a1_0, .int .i64 a1_1, .slice A1_2 l1_2.length c1_2] 46 (0, 0)) (by (with_reducible repeat (first | refine blk_drewN ?_ _ | refine blk_drew ?_ | refine blk_alloc ?_ _)); exact BK_g3.out) hb); clear HB BK_g3 hz_g30 hz_g3f0 hz_g31 hz_g3f1 hz_g32 hz_g3f2 hb; have HB := n0_; have BK_g3 := n1_; clear n0_ n1_; have hz_g30 : w5.cell? ⟨g3, 0, none⟩ = some (.int .i64 a1_0) := (blk_cell BK_g3.out 0).trans rfl; have hz_g3f0 := blk_frozen BK_g3.out 0; have hz_g31 : w5.cell? ⟨g3, 1, none⟩ = some (.int .i64 a1_1) := (blk_cell BK_g3.out 1).trans rfl; have hz_g3f1 := blk_frozen BK_g3.out 1; have hz_g32 : w5.cell? ⟨g3, 2, none⟩ = some (.slice A1_2 l1_2.length c1_2) := (blk_cell BK_g3.out 2).trans rfl; have hz_g3f2 := blk_frozen BK_g3.out 2))
  go_ret
  exact ⟨rfl, (by repeat (first | (with_reducible first | exact HB.out | apply below_alloc | apply pw_below_drewN | apply below_drew1) | exact HB.out))⟩
def stringslite_HasPrefix.f (a0 : ByteArray) (a1 : ByteArray) : Option (Bool) := if (a0.size : Int) ≥ (a1.size : Int) then (if 0 ≤ (a1.size : Int) then (if (a1.size : Int) ≤ (a0.size : Int) then (some ((a0.extract 0 ((a1.size : Int) : Int).toNat).toList == a1.toList)) else (none)) else (none)) else (some false)
set_option maxHeartbeats 8000000 in
set_option maxRecDepth 100000 in
theorem stringslite_HasPrefix.calls (a0 : ByteArray) (a1 : ByteArray) (r : Bool) (w : World) (h : stringslite_HasPrefix.f a0 a1 = some r) :
  Calls Tryd.prog 122 #[.string a0, .string a1] w fun e w' => e = .returned (.bool r) ∧ Drawn0 w w' := by
 have H : (if (a0.size : Int) ≥ (a1.size : Int) then (if 0 ≤ (a1.size : Int) then (if (a1.size : Int) ≤ (a0.size : Int) then (some ((a0.extract 0 ((a1.size : Int) : Int).toNat).toList == a1.toList)) else (none)) else (none)) else (some false)) = some r := h
 clear h
 by_cases c3 : (a0.size : Int) ≥ (a1.size : Int)
 ·rw [if_pos c3] at H
  have c3b0 : decide ((a1.size : Int) ≤ (a0.size : Int)) = true := decide_eq_true c3
  have c3b1 : decide (a1.size ≤ a0.size) = true := decide_eq_true (Int.ofNat_le.mp c3)
  clear c3
  by_cases c4 : 0 ≤ (a1.size : Int)
  ·rw [if_pos c4] at H
   have c4b0 := eq_true c4
   have c4b1 : decide (0 ≤ (a1.size : Int)) = true := decide_eq_true c4
   clear c4
   by_cases c5 : (a1.size : Int) ≤ (a0.size : Int)
   ·rw [if_pos c5] at H
    have c5b0 := eq_true c5
    have c5b1 : decide ((a1.size : Int) ≤ (a0.size : Int)) = true := decide_eq_true c5
    clear c5
    obtain rfl := Option.some.inj H
    go_enter Tryd.func122, Tryd.ntmps122
    go_wp2
    go_ret
    exact ⟨by first | rfl | (simp; done) | (simp [*]; done), by repeat (first | exact Drawn0.refl _ | apply Drawn0.step)⟩
   ·rw [if_neg c5] at H
    exact absurd H (by simp)
  ·rw [if_neg c4] at H
   exact absurd H (by simp)
 ·rw [if_neg c3] at H
  have c3b0 : decide ((a1.size : Int) ≤ (a0.size : Int)) = false := decide_eq_false c3
  have c3b1 : decide (a1.size ≤ a0.size) = false := decide_eq_false (fun h => c3 (Int.ofNat_le.mpr h))
  clear c3
  obtain rfl := Option.some.inj H
  go_enter Tryd.func122, Tryd.ntmps122
  go_wp2
  go_ret
  exact ⟨by first | rfl | (simp; done) | (simp [*]; done), by repeat (first | exact Drawn0.refl _ | apply Drawn0.step)⟩
def stringslite_CutPrefix.f (a0 : ByteArray) (a1 : ByteArray) : Option (ByteArray × Bool) := (stringslite_HasPrefix.f a0 a1).bind fun t294 => (if t294 = true then (if 0 ≤ (a1.size : Int) then (if (a1.size : Int) ≤ (a0.size : Int) then (some (a0.extract ((a1.size : Int) : Int).toNat a0.size, true)) else (none)) else (none)) else (some (a0, false)))
set_option maxHeartbeats 8000000 in
set_option maxRecDepth 100000 in
theorem stringslite_CutPrefix.calls (a0 : ByteArray) (a1 : ByteArray) (r1 : ByteArray) (r2 : Bool) (w : World) (h : stringslite_CutPrefix.f a0 a1 = some (r1, r2)) :
  Calls Tryd.prog 102 #[.string a0, .string a1] w fun e w' => e = .returned (.tuple #[.string r1, .bool r2]) ∧ Drawn0 w w' := by
 have H : ((stringslite_HasPrefix.f a0 a1).bind fun t294 => (if t294 = true then (if 0 ≤ (a1.size : Int) then (if (a1.size : Int) ≤ (a0.size : Int) then (some (a0.extract ((a1.size : Int) : Int).toNat a0.size, true)) else (none)) else (none)) else (some (a0, false)))) = some (r1, r2) := h
 clear h
 replace H := Option.bind_eq_some_iff.mp H
 obtain ⟨t294, A30, H⟩ := H
 replace H : (if t294 = true then (if 0 ≤ (a1.size : Int) then (if (a1.size : Int) ≤ (a0.size : Int) then (some (a0.extract ((a1.size : Int) : Int).toNat a0.size, true)) else (none)) else (none)) else (some (a0, false))) = some (r1, r2) := H
 have A3 := Aside0.mk A30
 clear A30
 by_cases c4 : t294 = true
 ·subst c4
  have H1 : (if 0 ≤ (a1.size : Int) then (if (a1.size : Int) ≤ (a0.size : Int) then (some (a0.extract ((a1.size : Int) : Int).toNat a0.size, true)) else (none)) else (none)) = some (r1, r2) := by rw [if_pos rfl] at H; exact H
  clear H
  have H := H1
  clear H1
  by_cases c5 : 0 ≤ (a1.size : Int)
  ·rw [if_pos c5] at H
   have c5b0 := eq_true c5
   have c5b1 : decide (0 ≤ (a1.size : Int)) = true := decide_eq_true c5
   clear c5
   by_cases c6 : (a1.size : Int) ≤ (a0.size : Int)
   ·rw [if_pos c6] at H
    have c6b0 := eq_true c6
    have c6b1 : decide ((a1.size : Int) ≤ (a0.size : Int)) = true := decide_eq_true c6
    clear c6
    simp only [Option.some.injEq, Prod.mk.injEq] at H
    obtain ⟨rfl, rfl⟩ := H
    go_enter Tryd.func102, Tryd.ntmps102
    go_wp2_with (first | ((with_reducible refine gate_callee (f := 122) rfl ?_); refine goesL_ (some 8) rfl rfl Tryd.func122 (by kernel_rfl) rfl #[.string a0, .string a1] rfl (by (try simp only [List.map_toArray, List.map_cons, List.map_nil]); first | done | rfl | (simp only [List.length_drop, List.length_take]; rfl)) ?_; (with_reducible refine (stringslite_HasPrefix.calls a0 a1 true _ A3.out).mono ?_); rintro e w' ⟨rfl, ⟨nd, rfl⟩⟩; refine ⟨_, rfl, ?_⟩))
    go_ret2
    exact ⟨by first | rfl | (simp; done) | (simp [*]; done), by repeat (first | exact Drawn0.refl _ | apply Drawn0.step)⟩
   ·rw [if_neg c6] at H
    exact absurd H (by simp)
  ·rw [if_neg c5] at H
   exact absurd H (by simp)
 ·replace c4 := Bool.eq_false_iff.mpr c4
  subst c4
  have H1 : (some (a0, false)) = some (r1, r2) := by rw [if_neg (show ¬ (false = true) by decide)] at H; exact H
  clear H
  have H := H1
  clear H1
  simp only [Option.some.injEq, Prod.mk.injEq] at H
  obtain ⟨rfl, rfl⟩ := H
  go_enter Tryd.func102, Tryd.ntmps102
  go_wp2_with (first | ((with_reducible refine gate_callee (f := 122) rfl ?_); refine goesL_ (some 8) rfl rfl Tryd.func122 (by kernel_rfl) rfl #[.string a0, .string a1] rfl (by (try simp only [List.map_toArray, List.map_cons, List.map_nil]); first | done | rfl | (simp only [List.length_drop, List.length_take]; rfl)) ?_; (with_reducible refine (stringslite_HasPrefix.calls a0 a1 false _ A3.out).mono ?_); rintro e w' ⟨rfl, ⟨nd, rfl⟩⟩; refine ⟨_, rfl, ?_⟩))
  go_ret2
  exact ⟨by first | rfl | (simp; done) | (simp [*]; done), by repeat (first | exact Drawn0.refl _ | apply Drawn0.step)⟩
def strings_CutPrefix.f (a0 : ByteArray) (a1 : ByteArray) : Option (ByteArray × Bool) := (stringslite_CutPrefix.f a0 a1).bind fun bt295 => (some (bt295.1, bt295.2))
set_option maxHeartbeats 8000000 in
set_option maxRecDepth 100000 in
theorem strings_CutPrefix.calls (a0 : ByteArray) (a1 : ByteArray) (r1 : ByteArray) (r2 : Bool) (w : World) (h : strings_CutPrefix.f a0 a1 = some (r1, r2)) :
  Calls Tryd.prog 69 #[.string a0, .string a1] w fun e w' => e = .returned (.tuple #[.string r1, .bool r2]) ∧ Drawn0 w w' := by
 have H : ((stringslite_CutPrefix.f a0 a1).bind fun bt295 => (some (bt295.1, bt295.2))) = some (r1, r2) := h
 clear h
 replace H := Option.bind_eq_some_iff.mp H
 obtain ⟨⟨t295, t296⟩, A30, H⟩ := H
 replace H : (some (t295, t296)) = some (r1, r2) := H
 have A3 := Aside0.mk A30
 clear A30
 simp only [Option.some.injEq, Prod.mk.injEq] at H
 obtain ⟨rfl, rfl⟩ := H
 go_enter Tryd.func69, Tryd.ntmps69
 go_wp2_with (first | ((with_reducible refine gate_callee (f := 102) rfl ?_); refine goesL_ (some 8) rfl rfl Tryd.func102 (by kernel_rfl) rfl #[.string a0, .string a1] rfl (by (try simp only [List.map_toArray, List.map_cons, List.map_nil]); first | done | rfl | (simp only [List.length_drop, List.length_take]; rfl)) ?_; (with_reducible refine (stringslite_CutPrefix.calls a0 a1 t295 t296 _ A3.out).mono ?_); rintro e w' ⟨rfl, ⟨nd, rfl⟩⟩; refine ⟨_, rfl, ?_⟩))
 go_ret2
 exact ⟨by first | rfl | (simp; done) | (simp [*]; done), by repeat (first | exact Drawn0.refl _ | apply Drawn0.step)⟩
open Go.Shelf in
def cutRen : Go.Shelf.Ren := ⟨fun | 145 => 98 | 220 => 118 | 219 => 137 | 217 => 153 | 225 => 154 | 224 => 155 | 267 => 156 | 266 => 161 | 314 => 162 | n => n, fun | 9 => 9 | 4 => 4 | 59 => 129 | 3 => 3 | 5 => 5 | 46 => 116 | 146 => 189 | 51 => 178 | n => n, fun | 1 => 3 | n => n⟩
open Go.Shelf in
theorem cutLays : Go.Proofs.Lays.n145 Tryd.prog cutRen := {
 mixed := by kernel_rfl
 f145 := Tryd.func98.trans (congrArg some (by kernel_rfl))
 f217 := Tryd.func153.trans (congrArg some (by kernel_rfl))
 f219 := Tryd.func137.trans (congrArg some (by kernel_rfl))
 f220 := Tryd.func118.trans (congrArg some (by kernel_rfl))
 f224 := Tryd.func155.trans (congrArg some (by kernel_rfl))
 f225 := Tryd.func154.trans (congrArg some (by kernel_rfl))
 f266 := Tryd.func161.trans (congrArg some (by kernel_rfl))
 f267 := Tryd.func156.trans (congrArg some (by kernel_rfl))
 f314 := Tryd.func162.trans (congrArg some (by kernel_rfl))
 t3 := Tryd.underlying3
 a3 := Tryd.isAgg3
 z3 := Tryd.sizeOf3
 v3 := Tryd.zeroValue3
 t4 := Tryd.underlying4
 a4 := Tryd.isAgg4
 z4 := Tryd.sizeOf4
 v4 := Tryd.zeroValue4
 t5 := Tryd.underlying5
 a5 := Tryd.isAgg5
 z5 := Tryd.sizeOf5
 v5 := Tryd.zeroValue5
 t9 := Tryd.underlying9
 a9 := Tryd.isAgg9
 z9 := Tryd.sizeOf9
 v9 := Tryd.zeroValue9
 t46 := Tryd.underlying116
 a46 := Tryd.isAgg116
 z46 := Tryd.sizeOf116
 v46 := Tryd.zeroValue116
 t51 := Tryd.underlying178
 a51 := Tryd.isAgg178
 z51 := Tryd.sizeOf178
 v51 := Tryd.zeroValue178
 t59 := Tryd.underlying129
 a59 := Tryd.isAgg129
 z59 := Tryd.sizeOf129
 v59 := Tryd.zeroValue129
 t146 := Tryd.underlying189
 a146 := Tryd.isAgg189
 z146 := Tryd.sizeOf189
 v146 := Tryd.zeroValue189
 g1 := by kernel_rfl }
open Go.Shelf in
def piRen : Go.Shelf.Ren := ⟨fun | 174 => 70 | 247 => 103 | 245 => 104 | 287 => 123 | 279 => 124 | 280 => 125 | 281 => 126 | 282 => 127 | 321 => 141 | 322 => 142 | 316 => 143 | 171 => 145 | 205 => 144 | 243 => 158 | 246 => 111 | 283 => 130 | 284 => 131 | 285 => 132 | 286 => 133 | 129 => 147 | 317 => 146 | 318 => 148 | 319 => 149 | 320 => 150 | 337 => 159 | 338 => 160 | n => n, fun | 9 => 9 | 3 => 3 | 2 => 2 | 75 => 102 | 85 => 103 | 4 => 4 | 167 => 150 | 5 => 5 | 53 => 151 | 175 => 152 | 46 => 116 | 168 => 154 | 37 => 108 | 0 => 0 | 210 => 173 | 21 => 21 | 127 => 165 | 145 => 187 | 143 => 185 | 171 => 159 | 173 => 162 | 212 => 177 | 51 => 178 | 20 => 20 | 213 => 179 | 232 => 195 | 233 => 196 | 80 => 80 | n => n, fun | 15 => 0 | 16 => 1 | 17 => 2 | 18 => 6 | 19 => 7 | n => n⟩
open Go.Shelf in
theorem piLays : Go.Proofs.LaysC.n174 Tryd.prog piRen := {
 mixed := by kernel_rfl
 f129 := Tryd.func147.trans (congrArg some (by kernel_rfl))
 f171 := Tryd.func145.trans (congrArg some (by kernel_rfl))
 f174 := Tryd.func70.trans (congrArg some (by kernel_rfl))
 f205 := Tryd.func144.trans (congrArg some (by kernel_rfl))
 f243 := Tryd.func158.trans (congrArg some (by kernel_rfl))
 f245 := Tryd.func104.trans (congrArg some (by kernel_rfl))
 f246 := Tryd.func111.trans (congrArg some (by kernel_rfl))
 f247 := Tryd.func103.trans (congrArg some (by kernel_rfl))
 f279 := Tryd.func124.trans (congrArg some (by kernel_rfl))
 f280 := Tryd.func125.trans (congrArg some (by kernel_rfl))
 f281 := Tryd.func126.trans (congrArg some (by kernel_rfl))
 f282 := Tryd.func127.trans (congrArg some (by kernel_rfl))
 f283 := Tryd.func130.trans (congrArg some (by kernel_rfl))
 f284 := Tryd.func131.trans (congrArg some (by kernel_rfl))
 f285 := Tryd.func132.trans (congrArg some (by kernel_rfl))
 f286 := Tryd.func133.trans (congrArg some (by kernel_rfl))
 f287 := Tryd.func123.trans (congrArg some (by kernel_rfl))
 f316 := Tryd.func143.trans (congrArg some (by kernel_rfl))
 f317 := Tryd.func146.trans (congrArg some (by kernel_rfl))
 f318 := Tryd.func148.trans (congrArg some (by kernel_rfl))
 f319 := Tryd.func149.trans (congrArg some (by kernel_rfl))
 f320 := Tryd.func150.trans (congrArg some (by kernel_rfl))
 f321 := Tryd.func141.trans (congrArg some (by kernel_rfl))
 f322 := Tryd.func142.trans (congrArg some (by kernel_rfl))
 f337 := Tryd.func159.trans (congrArg some (by kernel_rfl))
 f338 := Tryd.func160.trans (congrArg some (by kernel_rfl))
 t0 := Tryd.underlying0
 a0 := Tryd.isAgg0
 z0 := Tryd.sizeOf0
 v0 := Tryd.zeroValue0
 t2 := Tryd.underlying2
 a2 := Tryd.isAgg2
 z2 := Tryd.sizeOf2
 v2 := Tryd.zeroValue2
 t3 := Tryd.underlying3
 a3 := Tryd.isAgg3
 z3 := Tryd.sizeOf3
 v3 := Tryd.zeroValue3
 t4 := Tryd.underlying4
 a4 := Tryd.isAgg4
 z4 := Tryd.sizeOf4
 v4 := Tryd.zeroValue4
 t5 := Tryd.underlying5
 a5 := Tryd.isAgg5
 z5 := Tryd.sizeOf5
 v5 := Tryd.zeroValue5
 t9 := Tryd.underlying9
 a9 := Tryd.isAgg9
 z9 := Tryd.sizeOf9
 v9 := Tryd.zeroValue9
 t20 := Tryd.underlying20
 a20 := Tryd.isAgg20
 z20 := Tryd.sizeOf20
 v20 := Tryd.zeroValue20
 t21 := Tryd.underlying21
 a21 := Tryd.isAgg21
 z21 := Tryd.sizeOf21
 v21 := Tryd.zeroValue21
 t37 := Tryd.underlying108
 a37 := Tryd.isAgg108
 z37 := Tryd.sizeOf108
 v37 := Tryd.zeroValue108
 t46 := Tryd.underlying116
 a46 := Tryd.isAgg116
 z46 := Tryd.sizeOf116
 v46 := Tryd.zeroValue116
 t51 := Tryd.underlying178
 a51 := Tryd.isAgg178
 z51 := Tryd.sizeOf178
 v51 := Tryd.zeroValue178
 t53 := Tryd.underlying151
 a53 := Tryd.isAgg151
 z53 := Tryd.sizeOf151
 v53 := Tryd.zeroValue151
 t75 := Tryd.underlying102
 a75 := Tryd.isAgg102
 z75 := Tryd.sizeOf102
 v75 := Tryd.zeroValue102
 t85 := Tryd.underlying103
 a85 := Tryd.isAgg103
 z85 := Tryd.sizeOf103
 v85 := Tryd.zeroValue103
 t127 := Tryd.underlying165
 a127 := Tryd.isAgg165
 z127 := Tryd.sizeOf165
 v127 := Tryd.zeroValue165
 t143 := Tryd.underlying185
 a143 := Tryd.isAgg185
 z143 := Tryd.sizeOf185
 v143 := Tryd.zeroValue185
 t145 := Tryd.underlying187
 a145 := Tryd.isAgg187
 z145 := Tryd.sizeOf187
 v145 := Tryd.zeroValue187
 t167 := Tryd.underlying150
 a167 := Tryd.isAgg150
 z167 := Tryd.sizeOf150
 v167 := Tryd.zeroValue150
 t168 := Tryd.underlying154
 a168 := Tryd.isAgg154
 z168 := Tryd.sizeOf154
 v168 := Tryd.zeroValue154
 t171 := Tryd.underlying159
 a171 := Tryd.isAgg159
 z171 := Tryd.sizeOf159
 v171 := Tryd.zeroValue159
 t173 := Tryd.underlying162
 a173 := Tryd.isAgg162
 z173 := Tryd.sizeOf162
 v173 := Tryd.zeroValue162
 t175 := Tryd.underlying152
 a175 := Tryd.isAgg152
 z175 := Tryd.sizeOf152
 v175 := Tryd.zeroValue152
 t210 := Tryd.underlying173
 a210 := Tryd.isAgg173
 z210 := Tryd.sizeOf173
 v210 := Tryd.zeroValue173
 t212 := Tryd.underlying177
 a212 := Tryd.isAgg177
 z212 := Tryd.sizeOf177
 v212 := Tryd.zeroValue177
 t213 := Tryd.underlying179
 a213 := Tryd.isAgg179
 z213 := Tryd.sizeOf179
 t232 := Tryd.underlying195
 a232 := Tryd.isAgg195
 z232 := Tryd.sizeOf195
 v232 := Tryd.zeroValue195
 t233 := Tryd.underlying196
 a233 := Tryd.isAgg196
 z233 := Tryd.sizeOf196
 v233 := Tryd.zeroValue196
 g15 := by kernel_rfl
 g16 := by kernel_rfl
 g17 := by kernel_rfl
 g18 := by kernel_rfl
 g19 := by kernel_rfl
 t80 := Tryd.underlying80
 a80 := Tryd.isAgg80
 z80 := Tryd.sizeOf80
 v80 := Tryd.zeroValue80
 i0 := by kernel_rfl
 i2 := by kernel_rfl
 i3 := by kernel_rfl
 i4 := by kernel_rfl
 i5 := by kernel_rfl
 i9 := by kernel_rfl
 i20 := by kernel_rfl
 i21 := by kernel_rfl
 i37 := by kernel_rfl
 i46 := by kernel_rfl
 i51 := by kernel_rfl
 i53 := by kernel_rfl
 i75 := by kernel_rfl
 i80 := by kernel_rfl
 i85 := by kernel_rfl
 i127 := by kernel_rfl
 i143 := by kernel_rfl
 i145 := by kernel_rfl
 i167 := by kernel_rfl
 i168 := by kernel_rfl
 i171 := by kernel_rfl
 i173 := by kernel_rfl
 i175 := by kernel_rfl
 i210 := by kernel_rfl
 i212 := by kernel_rfl
 i232 := by kernel_rfl
 i233 := by kernel_rfl
 m15 := by kernel_rfl
 m16 := by kernel_rfl
 m17 := by kernel_rfl
 m18 := by kernel_rfl
 m19 := by kernel_rfl
 c0 := by kernel_rfl
 c2 := by kernel_rfl
 c3 := by kernel_rfl
 c4 := by kernel_rfl
 c5 := by kernel_rfl
 c9 := by kernel_rfl
 c20 := by kernel_rfl
 c21 := by kernel_rfl
 c37 := by kernel_rfl
 c46 := by kernel_rfl
 c51 := by kernel_rfl
 c53 := by kernel_rfl
 c75 := by kernel_rfl
 c80 := by kernel_rfl
 c85 := by kernel_rfl
 c127 := by kernel_rfl
 c143 := by kernel_rfl
 c145 := by kernel_rfl
 c167 := by kernel_rfl
 c168 := by kernel_rfl
 c171 := by kernel_rfl
 c173 := by kernel_rfl
 c175 := by kernel_rfl
 c210 := by kernel_rfl
 c212 := by kernel_rfl
 c213 := by kernel_rfl
 c232 := by kernel_rfl
 c233 := by kernel_rfl }
def Glob (w : World) : Prop := (∃ m, w.cell? ⟨3, 0, none⟩ = some (.int .i64 m)) ∧ (∃ ev, w.cell? ⟨0, 0, none⟩ = some ev ∧ (ev = .nilIface ∨ ∃ te pe, ev = .iface te pe)) ∧ (∃ ev, w.cell? ⟨1, 0, none⟩ = some ev ∧ (ev = .nilIface ∨ ∃ te pe, ev = .iface te pe)) ∧ Go.Lib.TabIs Tryd.prog w "internal/strconv.uint64pow10" .u64 Go.Lib.pow10Tab
theorem Glob.below {w w' : World} (h : Glob w) (hb : Below w.heap.size w w') : Glob w' := by
 obtain ⟨⟨m, hm⟩, ⟨e1, h1, k1⟩, ⟨e2, h2, k2⟩, ht⟩ := h
 have ht' : Go.Lib.TabIs Tryd.prog w' "internal/strconv.uint64pow10" .u64 Go.Lib.pow10Tab := by
  exact Go.Joins.tab_stays (g := 2) (by kernel_rfl) ht hb (Nat.le_refl _)
 exact ⟨⟨m, (hb.cell (World.block_lt_of_cell? _ _ hm)).trans hm⟩, ⟨e1, (hb.cell (World.block_lt_of_cell? _ _ h1)).trans h1, k1⟩, ⟨e2, (hb.cell (World.block_lt_of_cell? _ _ h2)).trans h2, k2⟩, ht'⟩
def piB (s : ByteArray) : Int × Bool := match Go.Lib.parseIntB 64 s.data.toList with
 | .ok v => (v, false)
 | .range => (Go.Lib.intSat 64 s.data.toList, true)
 | _ => (0, true)
theorem pi_calls (s : ByteArray) (w : World) (hs : s.size ≤ 1048576) (hG : Glob w) :
  Calls Tryd.prog 70 #[.string s, .int .i64 10, .int .i64 64] w fun e w' => ∃ u, e = .returned (.tuple #[.int .i64 (piB s).1, u]) ∧ ((piB s).2 = false → u = .nilIface) ∧ ((piB s).2 = true → ∃ N, u = .iface 154 (.pointer (some ⟨N, 0, none⟩))) ∧ Below w.heap.size w w' := by
 obtain ⟨_, ⟨e1, h1, k1⟩, ⟨e2, h2, k2⟩, _⟩ := hG
 cases hp : Go.Lib.parseIntB 64 s.data.toList with
 | ok v =>
  have e0 : piB s = (v, false) := by unfold piB; rw [hp]
  rw [e0]
  refine (Go.Proofs.Any.strconv_ParseInt_10_at64_ok piLays s (by omega) v hp w).mono ?_
  rintro e w' ⟨rfl, hw⟩
  refine ⟨_, rfl, fun _ => rfl, fun h => by simp at h, ?_⟩
  rcases hw with rfl | ⟨t, rfl⟩
  ·exact Below.refl _ _
  ·exact Go.Joins.below_bytesWorld _ _ _ _ (Nat.le_refl _)
 | range =>
  have e0 : piB s = (Go.Lib.intSat 64 s.data.toList, true) := by unfold piB; rw [hp]
  rw [e0]
  refine (Go.Proofs.Any.strconv_ParseInt_10_at64_range piLays s (by omega) hp e2 w h2 k2).mono ?_
  rintro e w' ⟨N, rfl, _, _, hb⟩
  exact ⟨_, rfl, fun h => by simp at h, fun _ => ⟨N, rfl⟩, hb⟩
 | _ =>
  have e0 : piB s = (0, true) := by unfold piB; rw [hp]
  rw [e0]
  refine (Go.Proofs.Any.strconv_ParseInt_10_at64_syntax piLays s (by omega) hp e1 w h1 k1).mono ?_
  rintro e w' ⟨N, rfl, _, _, hb⟩
  exact ⟨_, rfl, fun h => by simp at h, fun _ => ⟨N, rfl⟩, hb⟩
def cutB (s sep : ByteArray) : ByteArray × ByteArray × Bool := (⟨(Go.Lib.cut s.data.toList sep.data.toList).1.toArray⟩, ⟨(Go.Lib.cut s.data.toList sep.data.toList).2.1.toArray⟩, (Go.Lib.cut s.data.toList sep.data.toList).2.2)
theorem cut_calls (s sep : ByteArray) (w : World) (hs : s.size ≤ 1048576) (hG : Glob w) :
  Calls Tryd.prog 98 #[.string s, .string sep] w fun e w' => e = .returned (.tuple #[.string (cutB s sep).1, .string (cutB s sep).2.1, .bool (cutB s sep).2.2]) ∧ Drawn0 w w' := by
 obtain ⟨⟨m, hm⟩, _⟩ := hG
 refine (Go.Proofs.Any.strings_Cut cutLays s sep m w (by omega) hm).mono ?_
 rintro e w' ⟨rfl, n, rfl⟩
 exact ⟨rfl, ⟨n, rfl⟩⟩
def strconv_ParseInt_70.f (a0 : ByteArray) (a1 : Int) (a2 : Int) : Option (Int × Bool) := if (a1 = 10 ∧ a2 = 64) ∧ a0.size ≤ 1048576 then some (piB a0) else none
theorem strconv_ParseInt_70.calls (a0 : ByteArray) (a1 : Int) (a2 : Int) (r1 : Int) (r2 : Bool) (w : World) (hG : Glob w) (h : strconv_ParseInt_70.f a0 a1 a2 = some (r1, r2)) :
  Calls Tryd.prog 70 #[.string a0, .int .i64 a1, .int .i64 a2] w fun e w' => ∃ u, e = .returned (.tuple #[.int .i64 r1, u]) ∧ (r2 = false → u = .nilIface) ∧ (r2 = true → ∃ T N, u = .iface T (.pointer (some ⟨N, 0, none⟩))) ∧ Below w.heap.size w w' := by
 unfold strconv_ParseInt_70.f at h
 by_cases c : (a1 = 10 ∧ a2 = 64) ∧ a0.size ≤ 1048576
 ·rw [if_pos c] at h
  replace h := Option.some.inj h
  obtain ⟨⟨rfl, rfl⟩, c2⟩ := c
  refine (pi_calls a0 w c2 hG).mono ?_
  rintro e w' ⟨u, rfl, h1, h2, hb⟩
  rw [h] at h1 h2 ⊢
  exact ⟨u, rfl, h1, fun hr => by obtain ⟨N, hN⟩ := h2 hr; exact ⟨_, N, hN⟩, hb⟩
 ·rw [if_neg c] at h
  exact absurd h (by simp)
def strings_Cut.f (a0 : ByteArray) (a1 : ByteArray) : Option (ByteArray × ByteArray × Bool) := if a0.size ≤ 1048576 then some (cutB a0 a1) else none
theorem strings_Cut.calls (a0 : ByteArray) (a1 : ByteArray) (r1 : ByteArray) (r2 : ByteArray) (r3 : Bool) (w : World) (hG : Glob w) (h : strings_Cut.f a0 a1 = some (r1, r2, r3)) :
  Calls Tryd.prog 98 #[.string a0, .string a1] w fun e w' => e = .returned (.tuple #[.string r1, .string r2, .bool r3]) ∧ Drawn0 w w' := by
 unfold strings_Cut.f at h
 by_cases c : a0.size ≤ 1048576
 ·rw [if_pos c] at h
  replace h := Option.some.inj h
  have hc := cut_calls a0 a1 w c hG
  rw [h] at hc
  exact hc
 ·rw [if_neg c] at h
  exact absurd h (by simp)
end Go.Proofs.YtijmdlhcidjpmaaDoor.P
