/- For every text the program's ReadFamily and the reference's read alike, and the result is memory of its own. This text: part 4 of what it rests on: functions of the translation as plain Lean functions, and that the machine's calls come to their answers. -/
import Derived.Test.YtijmdlhcidjpmaaDoorCFnExactReadFamilyc
import Derived.ChangeArms
import Derived.Deep.Slices
import Derived.Handed
import Derived.LaidSub
import Derived.Lib.ItoaLen
import Derived.Shelf.Abstract
import Derived.Shelf.Vars
import Derived.Stop.LaidErr
import Derived.Stop.LaidTwo
import Derived.WideShapes
namespace Go.Proofs.YtijmdlhcidjpmaaDoor.P
open Go.RowKit Go.Proofs.YtijmdlhcidjpmaaDoorW.PrintWords Go.Proofs.YtijmdlhcidjpmaaDoorW.PrintLast Go.Proofs.YtijmdlhcidjpmaaDoorW.PrintMore
attribute [local go_sem] max2_int min2_int max_two min_two max_three min_three max_four min_four
set_option linter.unusedVariables false
set_option linter.unusedSimpArgs false
mutual
def impl_ReadFamily.j0 : Nat → ByteArray → List ByteArray → Int → Bool → Option (Int × (List (List Int)) × Int)
 | 0, _, _, _, _ => none
 | k + 1, x0, x4, x7, x42 => if x42 = true then (some (0, ([] : List (List Int)), 5)) else (if 1 ≤ (wrap64 ((x4.length : Int) - 1)) then (if (wrap64 ((x4.length : Int) - 1)) ≤ (x4.length : Int) then ((some ((x4.take ((wrap64 ((x4.length : Int) - 1)) : Int).toNat).drop 1 : List ByteArray)).bind fun y593 => (impl_ReadFamily.l0 k x0 y593 (y593.length : Int) 0 x7 ([] : List (List Int)))) else (none)) else (none))
def impl_ReadFamily.l0 : Nat → ByteArray → List ByteArray → Int → Int → Int → List (List Int) → Option (Int × (List (List Int)) × Int)
 | 0, _, _, _, _, _, _ => none
 | k + 1, x0, x50, x51, x52, x593000, x593001 => if x52 < x51 then (if 0 ≤ x52 then (if x52 < (x50.length : Int) then ((impl_readGroup.f k (rdOf ByteArray.empty x50 x52)).bind fun bt598 => (if bt598.2 = true then (if x593001.length < 5864062014805 then (impl_ReadFamily.l0 k x0 x50 x51 (wrap64 (x52 + 1)) x593000 (x593001 ++ [bt598.1])) else (none)) else (some (0, ([] : List (List Int)), 5)))) else (none)) else (none)) else ((impl_FamilyText.f k x593000 x593001).bind fun t605 => (if t605.toList = x0.toList then (some (x593000, x593001, 0)) else (some (0, ([] : List (List Int)), 5))))
end
def impl_ReadFamily.f (k : Nat) (a0 : ByteArray) : Option (Int × (List (List Int)) × Int) := if (a0.size : Int) > 4000 then (some (0, ([] : List (List Int)), 2)) else ((strings_Split.f a0 (⟨#[10]⟩ : ByteArray)).bind fun t584 => (if 0 < (t584.length : Int) then ((strings_CutPrefix.f (rdOf ByteArray.empty t584 0) (⟨#[102, 97, 109, 105, 108, 121, 32]⟩ : ByteArray)).bind fun bt588 => ((strconv_ParseInt_70.f bt588.1 10 64).bind fun bt590 => (if bt588.2 = true then (if bt590.2 = true then (impl_ReadFamily.j0 k a0 t584 bt590.1 true) else (impl_ReadFamily.j0 k a0 t584 bt590.1 (decide ((t584.length : Int) < 2)))) else (impl_ReadFamily.j0 k a0 t584 bt590.1 true)))) else (none)))
set_option maxHeartbeats 8000000 in
set_option maxRecDepth 100000 in
theorem impl_ReadFamily.calls (k : Nat) (a0 : ByteArray) (r1 : Int) (r2 : List (List Int)) (r3 : Int) (w : World) (hG : Glob w) (h : impl_ReadFamily.f k a0 = some (r1, r2, r3)) :
  Calls Tryd.prog 33 #[.string a0] w fun e w' => ∃ v1_ : Value, e = .returned (.tuple #[.agg #[.int .i64 r1, v1_], .int .i64 r3]) ∧ Kd.S (Kd.slice 2 (Kd.int .i64)) 65 w' w.heap.size (fun _ => True) v1_ r2 ∧ Below w.heap.size w w' := by
 have HG := Aside0.mk hG
 clear hG
 have hu35 := Tryd.underlying35
 have HB := Aside0.mk (Below.refl w.heap.size w)
 have H : (if (a0.size : Int) > 4000 then (some (0, ([] : List (List Int)), 2)) else ((strings_Split.f a0 (⟨#[10]⟩ : ByteArray)).bind fun t584 => (if 0 < (t584.length : Int) then ((strings_CutPrefix.f (rdOf ByteArray.empty t584 0) (⟨#[102, 97, 109, 105, 108, 121, 32]⟩ : ByteArray)).bind fun bt588 => ((strconv_ParseInt_70.f bt588.1 10 64).bind fun bt590 => (if bt588.2 = true then (if bt590.2 = true then (impl_ReadFamily.j0 k a0 t584 bt590.1 true) else (impl_ReadFamily.j0 k a0 t584 bt590.1 (decide ((t584.length : Int) < 2)))) else (impl_ReadFamily.j0 k a0 t584 bt590.1 true)))) else (none)))) = some (r1, r2, r3) := h
 clear h
 by_cases c2 : (a0.size : Int) > 4000
 ·rw [if_pos c2] at H
  have c2b0 : decide (4000 < (a0.size : Int)) = true := decide_eq_true c2
  have c2b1 : decide (4000 < a0.size) = true := decide_eq_true (by omega)
  clear c2
  simp only [Option.some.injEq, Prod.mk.injEq] at H
  obtain ⟨rfl, rfl, rfl⟩ := H
  go_enter Tryd.func33, Tryd.ntmps33
  go_wp2_with (first | ((with_reducible refine gate_dst (N := 2) rfl ?_); (try (refine gate_guard (by rfl) ?_; dsimp only)); refine box_event ?hg (N := 2) ?hd (cs := #[.int .i64 0, .slice none 0 0]) (t := 35) ?hr ?_; (case hd => rfl); (case hg => rfl); (case hr => first | (go_simp; done) | (go_simp; rfl)); intro gb583 hg w3 hbox hb; have n0_ := Aside0.mk (below_step (by repeat (first | (with_reducible first | exact HB.out | apply below_alloc | apply pw_below_drewN | apply below_drew1) | exact HB.out)) hb); have n1_ := Aside0.mk (hbox); have n2_ := Aside0.mk ((by rw [hg]; exact (below_size (by repeat (first | (with_reducible first | exact HB.out | apply below_alloc | apply pw_below_drewN | apply below_drew1) | exact HB.out))) : w.heap.size ≤ gb583)); have n3_ := Aside0.mk ((by rw [hg]; exact (below_size (by repeat (first | (with_reducible first | exact HB.out | apply below_alloc | apply pw_below_drewN | apply below_drew1) | exact HB.out))) : w.heap.size ≤ gb583)); clear HB; have HB := n0_; have BK583 := n1_; have GW583 := n2_; have GE583 := n3_; clear n0_ n1_ n2_ n3_; clear hb hbox hg; have hcz4_0 : w3.cell? ⟨gb583, 0, none⟩ = some (.int .i64 0) := (blk_cell BK583.out 0).trans rfl; have hcz4_1 : w3.cell? ⟨gb583, 1, none⟩ = some (.slice none 0 0) := (blk_cell BK583.out 1).trans rfl; have hfz4_0 := blk_frozen BK583.out 0; have hfz4_1 := blk_frozen BK583.out 1))
  refine bodyPost_ret (results_ct rfl _ _ gb583 35 #[.int .i64 0, .slice none 0 0] (0, 0) _ rfl (by (with_reducible repeat (first | refine blk_drewN ?_ _ | refine blk_drew ?_ | refine blk_alloc ?_ _)); refine blk_put (cs := #[.int .i64 0, .slice none 0 0]) ?_ 1 _ rfl; (with_reducible repeat (first | refine blk_drewN ?_ _ | refine blk_drew ?_ | refine blk_alloc ?_ _)); refine blk_put (cs := #[.int .i64 0, .slice none 0 0]) ?_ 0 _ rfl; (with_reducible repeat (first | refine blk_drewN ?_ _ | refine blk_drew ?_ | refine blk_alloc ?_ _)); exact BK583.out) Tryd.underlying35 rfl (by kernel_rfl)) rfl ?_
  exact ⟨_, by first | rfl | (simp [errW_none, errW_some] <;> rfl) | (simp [*, errW_none, errW_some] <;> rfl), by first | exact Kd.S_nil _ _ _ _ _ | exact Kd.N_nil _ _ _ _ _ | exact Kd.V_nil _ _ _ _ _ | exact Kd.Q_nil _ _ _ _ _ | exact Kd.R_nil _ _ _ _ _, by repeat (first | (with_reducible first | exact HB.out | apply below_alloc | apply pw_below_drewN | apply below_drew1 | refine below_set ?_ GE583.out) | exact HB.out)⟩
 ·rw [if_neg c2] at H
  have c2b0 : decide (4000 < (a0.size : Int)) = false := decide_eq_false c2
  have c2b1 : decide (4000 < a0.size) = false := decide_eq_false (by omega)
  clear c2
  replace H := Option.bind_eq_some_iff.mp H
  obtain ⟨t584, A50, H⟩ := H
  replace H : (if 0 < (t584.length : Int) then ((strings_CutPrefix.f (rdOf ByteArray.empty t584 0) (⟨#[102, 97, 109, 105, 108, 121, 32]⟩ : ByteArray)).bind fun bt588 => ((strconv_ParseInt_70.f bt588.1 10 64).bind fun bt590 => (if bt588.2 = true then (if bt590.2 = true then (impl_ReadFamily.j0 k a0 t584 bt590.1 true) else (impl_ReadFamily.j0 k a0 t584 bt590.1 (decide ((t584.length : Int) < 2)))) else (impl_ReadFamily.j0 k a0 t584 bt590.1 true)))) else (none)) = some (r1, r2, r3) := H
  have A5 := Aside0.mk A50
  clear A50
  by_cases c6 : 0 < (t584.length : Int)
  ·rw [if_pos c6] at H
   have c6b0 : decide (0 < (t584.length : Int)) = true := decide_eq_true c6
   have c6b1 : decide (0 < t584.length) = true := decide_eq_true (by omega)
   clear c6
   replace H := Option.bind_eq_some_iff.mp H
   obtain ⟨⟨t588, t589⟩, A70, H⟩ := H
   replace H : ((strconv_ParseInt_70.f t588 10 64).bind fun bt590 => (if t589 = true then (if bt590.2 = true then (impl_ReadFamily.j0 k a0 t584 bt590.1 true) else (impl_ReadFamily.j0 k a0 t584 bt590.1 (decide ((t584.length : Int) < 2)))) else (impl_ReadFamily.j0 k a0 t584 bt590.1 true))) = some (r1, r2, r3) := H
   have A7 := Aside0.mk A70
   clear A70
   replace H := Option.bind_eq_some_iff.mp H
   obtain ⟨⟨t590, t591⟩, A80, H⟩ := H
   replace H : (if t589 = true then (if t591 = true then (impl_ReadFamily.j0 k a0 t584 t590 true) else (impl_ReadFamily.j0 k a0 t584 t590 (decide ((t584.length : Int) < 2)))) else (impl_ReadFamily.j0 k a0 t584 t590 true)) = some (r1, r2, r3) := H
   have A8 := Aside0.mk A80
   clear A80
   have HC9 := Aside0.mk H
   clear H
   go_enter Tryd.func33, Tryd.ntmps33
   go_upto_region 6 with (first | ((with_reducible refine gate_dst (N := 2) rfl ?_); (try (refine gate_guard (by rfl) ?_; dsimp only)); refine box_event ?hg (N := 2) ?hd (cs := #[.int .i64 0, .slice none 0 0]) (t := 35) ?hr ?_; (case hd => rfl); (case hg => rfl); (case hr => first | (go_simp; done) | (go_simp; rfl)); intro gb583 hg w10 hbox hb; have n0_ := Aside0.mk (below_step (by repeat (first | (with_reducible first | exact HB.out | apply below_alloc | apply pw_below_drewN | apply below_drew1) | exact HB.out)) hb); have n1_ := Aside0.mk (hbox); have n2_ := Aside0.mk ((by rw [hg]; exact (below_size (by repeat (first | (with_reducible first | exact HB.out | apply below_alloc | apply pw_below_drewN | apply below_drew1) | exact HB.out))) : w.heap.size ≤ gb583)); have n3_ := Aside0.mk ((by rw [hg]; exact (below_size (by repeat (first | (with_reducible first | exact HB.out | apply below_alloc | apply pw_below_drewN | apply below_drew1) | exact HB.out))) : w.heap.size ≤ gb583)); clear HB; have HB := n0_; have BK583 := n1_; have GW583 := n2_; have GE583 := n3_; clear n0_ n1_ n2_ n3_; clear hb hbox hg) | ((with_reducible refine gate_callee (f := 63) rfl ?_); refine goesL_ (some 19) rfl rfl Tryd.func63 (by kernel_rfl) rfl #[.string a0, .string (⟨#[10]⟩ : ByteArray)] rfl (by (try simp only [List.map_toArray, List.map_cons, List.map_nil]); first | done | rfl | (simp only [List.length_drop, List.length_take]; rfl)) ?_; (with_reducible refine (strings_Split.calls a0 (⟨#[10]⟩ : ByteArray) t584 _ ?sideG A5.out).mono ?_); (case sideG => exact Glob.below HG.out (by repeat (first | (with_reducible first | exact HB.out | apply below_alloc | apply pw_below_drewN | apply below_drew1 | refine below_set ?_ GE583.out) | exact HB.out))); rintro e w11 ⟨v585, rfl, ho0, hb⟩; refine ⟨_, rfl, ?_⟩; have n0_ := Aside0.mk (Kd.R_lower ho0 (below_size (by repeat (first | (with_reducible first | exact HB.out | apply below_alloc | apply pw_below_drewN | apply below_drew1 | refine below_set ?_ GE583.out) | exact HB.out)))); have n1_ := Aside0.mk (blk_below (g := gb583) (o := .cells #[.int .i64 0, .slice none 0 0] 35 (0, 0)) (by (with_reducible repeat (first | refine blk_drewN ?_ _ | refine blk_drew ?_ | refine blk_alloc ?_ _)); exact BK583.out) hb); have n2_ := Aside0.mk (below_step (by repeat (first | (with_reducible first | exact HB.out | apply below_alloc | apply pw_below_drewN | apply below_drew1 | refine below_set ?_ GE583.out) | exact HB.out)) hb); clear BK583; clear HB; have HO586 := n0_; have BK583 := n1_; have HB := n2_; clear n0_ n1_ n2_; (try clear hb); (try clear hb2); (try clear hk); (try clear hi); (try clear ho0); obtain ⟨Ao12, co12, eo12⟩ := Kd.R_slice HO586.out; subst eo12; have p587 : 0 ≤ (0 : Int) := (by omega); have q587 : 0 < (t584.length : Int) := of_decide_eq_true (by first | (with_reducible assumption) | assumption); obtain ⟨ad587, e587, hx587_0⟩ := Kd.at_string (Kd.R_reads' HO586.out).2.2 0 p587 q587; cases e587; have qi587 : (0 < t584.length) = True := eq_true (by omega); (try rw [show ((0 : Int)).toNat = 0 from rfl] at hx587_0); (try rw [Addr.add_zero'] at hx587_0); replace p587 := eq_true p587; replace q587 := eq_true q587) | ((with_reducible refine gate_callee (f := 69) rfl ?_); refine goesL_ (some 24) rfl rfl Tryd.func69 (by kernel_rfl) rfl #[.string (rdOf ByteArray.empty t584 0), .string (⟨#[102, 97, 109, 105, 108, 121, 32]⟩ : ByteArray)] rfl (by (try simp only [List.map_toArray, List.map_cons, List.map_nil]); first | done | rfl | (simp only [List.length_drop, List.length_take]; rfl)) ?_; (with_reducible refine (strings_CutPrefix.calls (rdOf ByteArray.empty t584 0) (⟨#[102, 97, 109, 105, 108, 121, 32]⟩ : ByteArray) t588 t589 _ A7.out).mono ?_); rintro e w' ⟨rfl, ⟨nd, rfl⟩⟩; refine ⟨_, rfl, ?_⟩) | ((with_reducible refine gate_callee (f := 70) rfl ?_); refine goesL_ (some 29) rfl rfl Tryd.func70 (by kernel_rfl) rfl #[.string t588, .int .i64 10, .int .i64 64] rfl (by (try simp only [List.map_toArray, List.map_cons, List.map_nil]); first | done | rfl | (simp only [List.length_drop, List.length_take]; rfl)) ?_; (with_reducible refine (strconv_ParseInt_70.calls t588 10 64 t590 t591 _ ?sideG A8.out).mono ?_); (case sideG => exact Glob.below HG.out (by repeat (first | (with_reducible first | exact HB.out | apply below_alloc | apply pw_below_drewN | apply below_drew1 | refine below_set ?_ GE583.out) | exact HB.out))); rintro e w13 ⟨u_, rfl, hu0_, hu1_, hb⟩; (first | (obtain rfl := hu0_ rfl; clear hu0_ hu1_) | (obtain ⟨T_, N_, rfl⟩ := hu1_ rfl; clear hu0_ hu1_) | (have HU0 := Aside0.mk hu0_; have HU1 := Aside0.mk hu1_; clear hu0_ hu1_)); refine ⟨_, rfl, ?_⟩; have n0_ := Aside0.mk (Kd.R_below (by (with_reducible repeat (first | apply Kd.R_alloc | apply Kd.R_drewN | apply Kd.R_drew)); exact HO586.out) hb); have n1_ := Aside0.mk (blk_below (g := gb583) (o := .cells #[.int .i64 0, .slice none 0 0] 35 (0, 0)) (by (with_reducible repeat (first | refine blk_drewN ?_ _ | refine blk_drew ?_ | refine blk_alloc ?_ _)); exact BK583.out) hb); have n2_ := Aside0.mk (below_step (by repeat (first | (with_reducible first | exact HB.out | apply below_alloc | apply pw_below_drewN | apply below_drew1 | refine below_set ?_ GE583.out) | exact HB.out)) hb); clear HO586; clear BK583; clear HB; have HO586 := n0_; have BK583 := n1_; have HB := n2_; clear n0_ n1_ n2_; (try clear hb); (try clear hb2); (try clear hk); (try clear hi)))
   (try simp only [Act.put, List.setIfInBounds_toArray, List.set_cons_zero, List.set_cons_succ])
   go_cut [42] (fun v42 wc => ∃ (kq : Nat) (x42_8 : Bool), v42 = .bool x42_8 ∧ Aside0 (impl_ReadFamily.j0 kq a0 t584 t590 x42_8 = some (r1, r2, r3)) ∧ Aside0 (kq ≤ k) ∧ Aside0 (Kd.R Kd.string 9 wc w.heap.size (fun _ => True) (.slice (some ad587) t584.length co12) t584) ∧ Aside0 (wc.heap[gb583]? = some (.cells #[.int .i64 0, (.slice none 0 0)] 35 (0, 0))) ∧ Aside0 (Below w.heap.size w wc))
   case first =>
    have H := HC9.out
    clear HC9
    by_cases c14 : t589 = true
    ·subst c14
     have H1 : (if t591 = true then (impl_ReadFamily.j0 k a0 t584 t590 true) else (impl_ReadFamily.j0 k a0 t584 t590 (decide ((t584.length : Int) < 2)))) = some (r1, r2, r3) := by rw [if_pos rfl] at H; exact H
     clear H
     have H := H1
     clear H1
     by_cases c15 : t591 = true
     ·subst c15
      (first | obtain rfl := HU0.out rfl | obtain ⟨T_, N_, rfl⟩ := HU1.out rfl)
      have H1 : (impl_ReadFamily.j0 k a0 t584 t590 true) = some (r1, r2, r3) := by rw [if_pos rfl] at H; exact H
      clear H
      have H := H1
      clear H1
      have H' := Aside0.mk H
      clear H
      go_wp2
      go_meet
      case rel => exact ⟨_, (true), (by first | rfl | (simp; done) | (simp [*]; done)), H', ⟨by first | omega | exact Nat.le_refl _⟩, ⟨by (with_reducible repeat (first | apply Kd.R_alloc | apply Kd.R_drewN | apply Kd.R_drew)); exact HO586.out⟩, ⟨by (with_reducible repeat (first | refine blk_drewN ?_ _ | refine blk_drew ?_ | refine blk_alloc ?_ _)); exact BK583.out⟩, ⟨by repeat (first | (with_reducible first | exact HB.out | apply below_alloc | apply pw_below_drewN | apply below_drew1 | refine below_set ?_ GE583.out) | exact HB.out)⟩⟩
     ·replace c15 := Bool.eq_false_iff.mpr c15
      subst c15
      (first | obtain rfl := HU0.out rfl | obtain ⟨T_, N_, rfl⟩ := HU1.out rfl)
      have H1 : (impl_ReadFamily.j0 k a0 t584 t590 (decide ((t584.length : Int) < 2))) = some (r1, r2, r3) := by rw [if_neg (show ¬ (false = true) by decide)] at H; exact H
      clear H
      have H := H1
      clear H1
      have H' := Aside0.mk H
      clear H
      go_wp2
      go_meet
      case rel => exact ⟨_, (decide ((t584.length : Int) < 2)), (by first | rfl | (simp; done) | (simp [*]; done)), H', ⟨by first | omega | exact Nat.le_refl _⟩, ⟨by (with_reducible repeat (first | apply Kd.R_alloc | apply Kd.R_drewN | apply Kd.R_drew)); exact HO586.out⟩, ⟨by (with_reducible repeat (first | refine blk_drewN ?_ _ | refine blk_drew ?_ | refine blk_alloc ?_ _)); exact BK583.out⟩, ⟨by repeat (first | (with_reducible first | exact HB.out | apply below_alloc | apply pw_below_drewN | apply below_drew1 | refine below_set ?_ GE583.out) | exact HB.out)⟩⟩
    ·replace c14 := Bool.eq_false_iff.mpr c14
     subst c14
     have H1 : (impl_ReadFamily.j0 k a0 t584 t590 true) = some (r1, r2, r3) := by rw [if_neg (show ¬ (false = true) by decide)] at H; exact H
     clear H
     have H := H1
     clear H1
     have H' := Aside0.mk H
     clear H
     go_wp2
     go_meet
     case rel => exact ⟨_, (true), (by first | rfl | (simp; done) | (simp [*]; done)), H', ⟨by first | omega | exact Nat.le_refl _⟩, ⟨by (with_reducible repeat (first | apply Kd.R_alloc | apply Kd.R_drewN | apply Kd.R_drew)); exact HO586.out⟩, ⟨by (with_reducible repeat (first | refine blk_drewN ?_ _ | refine blk_drew ?_ | refine blk_alloc ?_ _)); exact BK583.out⟩, ⟨by repeat (first | (with_reducible first | exact HB.out | apply below_alloc | apply pw_below_drewN | apply below_drew1 | refine below_set ?_ GE583.out) | exact HB.out)⟩⟩
   case rest =>
    clear HC9
    try clear c1
    try clear c2
    try clear c2b0
    try clear c2b1
    try clear p2
    try clear c3
    try clear p5
    try clear q5
    try clear hx5
    try clear qi5
    try clear c6
    try clear c6b0
    try clear c6b1
    try clear c7
    try clear c14
    try clear c15
    try clear hcz4_0
    try clear hcz4_1
    try clear hfz4_0
    try clear hfz4_1
    try clear hx587_0
    try clear p587
    try clear q587
    obtain ⟨kq, x42_8, rfl, HA, HJ8, HO_4, BK583, HB⟩ := hcut
    cases kq with
    | zero => exact absurd HA.out (by simp [impl_ReadFamily.j0])
    | succ kj8 =>
     have H := HA.out
     clear HA
     simp only [impl_ReadFamily.j0] at H
     by_cases c16 : x42_8 = true
     ·subst c16
      have H1 : (some (0, ([] : List (List Int)), 5)) = some (r1, r2, r3) := by rw [if_pos rfl] at H; exact H
      clear H
      have H := H1
      clear H1
      simp only [Option.some.injEq, Prod.mk.injEq] at H
      obtain ⟨rfl, rfl, rfl⟩ := H
      have hcz17_0 : wc.cell? ⟨gb583, 0, none⟩ = some (.int .i64 0) := (blk_cell BK583.out 0).trans rfl
      have hcz17_1 : wc.cell? ⟨gb583, 1, none⟩ = some (.slice none 0 0) := (blk_cell BK583.out 1).trans rfl
      have hfz17_0 := blk_frozen BK583.out 0
      have hfz17_1 := blk_frozen BK583.out 1
      go_wp2
      refine bodyPost_ret (results_ct rfl _ _ gb583 35 #[.int .i64 0, .slice none 0 0] (0, 0) _ rfl (by (with_reducible repeat (first | refine blk_drewN ?_ _ | refine blk_drew ?_ | refine blk_alloc ?_ _)); refine blk_put (cs := #[.int .i64 0, .slice none 0 0]) ?_ 1 _ rfl; (with_reducible repeat (first | refine blk_drewN ?_ _ | refine blk_drew ?_ | refine blk_alloc ?_ _)); refine blk_put (cs := #[.int .i64 0, .slice none 0 0]) ?_ 0 _ rfl; (with_reducible repeat (first | refine blk_drewN ?_ _ | refine blk_drew ?_ | refine blk_alloc ?_ _)); exact BK583.out) Tryd.underlying35 rfl (by kernel_rfl)) rfl ?_
      exact ⟨_, by first | rfl | (simp [errW_none, errW_some] <;> rfl) | (simp [*, errW_none, errW_some] <;> rfl), by first | exact Kd.S_nil _ _ _ _ _ | exact Kd.N_nil _ _ _ _ _ | exact Kd.V_nil _ _ _ _ _ | exact Kd.Q_nil _ _ _ _ _ | exact Kd.R_nil _ _ _ _ _, by repeat (first | (with_reducible first | exact HB.out | apply below_alloc | apply pw_below_drewN | apply below_drew1 | refine below_set ?_ GE583.out) | exact HB.out)⟩
     ·replace c16 := Bool.eq_false_iff.mpr c16
      subst c16
      have H1 : (if 1 ≤ (wrap64 ((t584.length : Int) - 1)) then (if (wrap64 ((t584.length : Int) - 1)) ≤ (t584.length : Int) then ((some ((t584.take ((wrap64 ((t584.length : Int) - 1)) : Int).toNat).drop 1 : List ByteArray)).bind fun y593 => (impl_ReadFamily.l0 kj8 a0 y593 (y593.length : Int) 0 t590 ([] : List (List Int)))) else (none)) else (none)) = some (r1, r2, r3) := by rw [if_neg (show ¬ (false = true) by decide)] at H; exact H
      clear H
      have H := H1
      clear H1
      by_cases c18 : 1 ≤ (wrap64 ((t584.length : Int) - 1))
      ·rw [if_pos c18] at H
       have c18b0 := eq_true c18
       have c18b1 : decide (1 ≤ (wrap64 ((t584.length : Int) - 1))) = true := decide_eq_true c18
       clear c18
       by_cases c19 : (wrap64 ((t584.length : Int) - 1)) ≤ (t584.length : Int)
       ·rw [if_pos c19] at H
        have c19b0 := eq_true c19
        have c19b1 : decide ((wrap64 ((t584.length : Int) - 1)) ≤ (t584.length : Int)) = true := decide_eq_true c19
        clear c19
        obtain ⟨y593, hy593⟩ : ∃ y_ : List ByteArray, y_ = ((t584.take ((wrap64 ((t584.length : Int) - 1)) : Int).toNat).drop 1) := ⟨_, rfl⟩
        replace H : (impl_ReadFamily.l0 kj8 a0 y593 (y593.length : Int) 0 t590 ([] : List (List Int))) = some (r1, r2, r3) := by first | (rw [hy593]; with_reducible exact H) | (have H2_ := (Option.bind_some _ _).symm.trans H; rw [hy593]; with_reducible exact H2_) | (have H2_ := (Option.bind_some _ _).symm.trans H; with_reducible exact H2_) | with_reducible exact H | (rw [hy593]; exact H) | exact H
        have Ny593 := Aside0.mk hy593
        clear hy593
        have H' := Aside0.mk H
        clear H
        go_wp2_with (first | ((with_reducible refine gate_dst (N := 9) rfl ?_); (try (refine gate_guard (by rfl) ?_; dsimp only)); refine box_event ?hg (N := 9) ?hd (cs := #[.int .i64 0, .slice none 0 0]) (t := 35) ?hr ?_; (case hd => rfl); (case hg => rfl); (case hr => first | (go_simp; done) | (go_simp; rfl)); intro gb592 hg w20 hbox hb; have n0_ := Aside0.mk (Kd.R_below (by (with_reducible repeat (first | apply Kd.R_alloc | apply Kd.R_drewN | apply Kd.R_drew)); exact HO_4.out) hb); have n1_ := Aside0.mk (blk_below (g := gb583) (o := .cells #[.int .i64 0, .slice none 0 0] 35 (0, 0)) (by (with_reducible repeat (first | refine blk_drewN ?_ _ | refine blk_drew ?_ | refine blk_alloc ?_ _)); exact BK583.out) hb); have n2_ := Aside0.mk (below_step (by repeat (first | (with_reducible first | exact HB.out | apply below_alloc | apply pw_below_drewN | apply below_drew1 | refine below_set ?_ GE583.out) | exact HB.out)) hb); have n3_ := Aside0.mk (hbox); have n4_ := Aside0.mk ((by rw [hg]; exact (below_size (by repeat (first | (with_reducible first | exact HB.out | apply below_alloc | apply pw_below_drewN | apply below_drew1 | refine below_set ?_ GE583.out) | exact HB.out))) : w.heap.size ≤ gb592)); have n5_ := Aside0.mk ((by rw [hg]; exact (below_size (by repeat (first | (with_reducible first | exact HB.out | apply below_alloc | apply pw_below_drewN | apply below_drew1 | refine below_set ?_ GE583.out) | exact HB.out))) : w.heap.size ≤ gb592)); have n6_ := Aside0.mk ((by rw [hg]; exact Nat.ne_of_lt (blk_lt (g := gb583) (o := .cells #[.int .i64 0, .slice none 0 0] 35 (0, 0)) (by (with_reducible repeat (first | refine blk_drewN ?_ _ | refine blk_drew ?_ | refine blk_alloc ?_ _)); exact BK583.out)) : gb583 ≠ gb592)); have n7_ := Aside0.mk ((by rw [hg]; exact Nat.ne_of_gt (blk_lt (g := gb583) (o := .cells #[.int .i64 0, .slice none 0 0] 35 (0, 0)) (by (with_reducible repeat (first | refine blk_drewN ?_ _ | refine blk_drew ?_ | refine blk_alloc ?_ _)); exact BK583.out)) : gb592 ≠ gb583)); clear HO_4; clear BK583; clear HB; have HO_4 := n0_; have BK583 := n1_; have HB := n2_; have BK592 := n3_; have GW592 := n4_; have GE592 := n5_; have NB583_592 := n6_; have NB592_583 := n7_; clear n0_ n1_ n2_ n3_ n4_ n5_ n6_ n7_; clear hb hbox hg; have hnb21 := NB592_583.out; have hnc21 := NB583_592.out; have hcz22_0 : w20.cell? ⟨gb592, 0, none⟩ = some (.int .i64 0) := (blk_cell BK592.out 0).trans rfl; have hcz22_1 : w20.cell? ⟨gb592, 1, none⟩ = some (.slice none 0 0) := (blk_cell BK592.out 1).trans rfl; have hfz22_0 := blk_frozen BK592.out 0; have hfz22_1 := blk_frozen BK592.out 1) | ((with_reducible refine gate_store (t := 35) (p := 9) rfl ?_); refine store_event (t := 35) (p := 9) (v := ?vo_w23) (w1 := ((w20.setCell ⟨gb592, 0, none⟩ (.int .i64 t590)).setCell ⟨gb592, 1, none⟩ (.slice none 0 0))) ?hg ?ho ?hn ?hr ?_; (case ho => rfl); (case hg => rfl); (case hn => rfl); (case hr => first | (go_simp; done) | (go_simp; rfl)); intro w23 hw; have n0_ : Aside0 (Kd.R Kd.string 9 w23 w.heap.size (fun _ => True) (.slice (some ad587) t584.length co12) t584) := ⟨(by rw [hw]; exact (by (with_reducible repeat (first | apply Kd.R_alloc | apply Kd.R_drewN | apply Kd.R_drew)); exact Kd.R_mono (Kd.R_far (p := ⟨gb592, 1, none⟩) (Kd.R_far (p := ⟨gb592, 0, none⟩) (Kd.R_types HO_4.out BK592.out (by decide)) (fun _ hk => hk.2) (.int .i64 t590)) (fun _ hk => hk.2) (.slice none 0 0)) (fun _ hk => trivial)))⟩; have n1_ : Aside0 (w23.heap[gb583]? = some (.cells #[.int .i64 0, .slice none 0 0] 35 (0, 0))) := ⟨(by rw [hw]; exact (by (with_reducible repeat (first | refine blk_drewN ?_ _ | refine blk_drew ?_ | refine blk_alloc ?_ _)); refine blk_far ?_ NB583_592.out _; (with_reducible repeat (first | refine blk_drewN ?_ _ | refine blk_drew ?_ | refine blk_alloc ?_ _)); refine blk_far ?_ NB583_592.out _; (with_reducible repeat (first | refine blk_drewN ?_ _ | refine blk_drew ?_ | refine blk_alloc ?_ _)); exact BK583.out))⟩; have n2_ : Aside0 (w23.heap[gb592]? = some (.cells #[.int .i64 t590, .slice none 0 0] 35 (0, 0))) := ⟨(by rw [hw]; exact (by (with_reducible repeat (first | refine blk_drewN ?_ _ | refine blk_drew ?_ | refine blk_alloc ?_ _)); refine blk_put (cs := #[.int .i64 t590, .slice none 0 0]) ?_ 1 _ rfl; (with_reducible repeat (first | refine blk_drewN ?_ _ | refine blk_drew ?_ | refine blk_alloc ?_ _)); refine blk_put (cs := #[.int .i64 0, .slice none 0 0]) ?_ 0 _ rfl; (with_reducible repeat (first | refine blk_drewN ?_ _ | refine blk_drew ?_ | refine blk_alloc ?_ _)); exact BK592.out))⟩; have n3_ : Aside0 (Below w.heap.size w w23) := ⟨(by rw [hw]; exact (by repeat (first | (with_reducible first | exact HB.out | apply below_alloc | apply pw_below_drewN | apply below_drew1 | refine below_set ?_ GE583.out | refine below_set ?_ GE592.out) | exact HB.out)))⟩; clear hw; clear HO_4; clear BK583; clear BK592; clear HB; have HO_4 := n0_; have BK583 := n1_; have BK592 := n2_; have HB := n3_; clear n0_ n1_ n2_ n3_; have q24 : ((wrap64 ((t584.length : Int) - 1)) : Int) ≤ ((t584.length : Int) : Int) := of_decide_eq_true (by first | (with_reducible assumption) | assumption); obtain ⟨i024, hi024, _, hsz24, _⟩ := info_parts info9; have hroom24 : t584.length ≤ co12 := (Kd.R_reads' HO_4.out).2.1; have hC24 : Kd.C Kd.string _ (some ad587) t584.length t584 := (Kd.R_reads' HO_4.out).2.2; have ql24 : (1 : Int) ≤ ((wrap64 ((t584.length : Int) - 1)) : Int) := of_decide_eq_true (by first | (with_reducible assumption) | assumption); have hcut24 := cut_mid (P := Tryd.prog) 90 9 .i64 .i64 Tryd.underlying90 hi024 1 hsz24 (some ad587) t584.length co12 1 (wrap64 ((t584.length : Int) - 1)) (by omega) ql24 q24 hroom24; have hr24 := Kd.C_mid (lo := (1 : Int).toNat) (hi := ((wrap64 ((t584.length : Int) - 1)) : Int).toNat) (c := co12) hC24 (by omega) (by omega) hroom24; obtain ⟨A24, hA24⟩ : ∃ A1, A1 = (if co12 = (1 : Int).toNat then (some ad587) else ((some ad587) : Option Addr).map (·.add ((1 : Int).toNat * 1))) := ⟨_, rfl⟩; obtain ⟨c24, hc24⟩ : ∃ c1, c1 = co12 - (1 : Int).toNat := ⟨_, rfl⟩; have hy24 : y593.length = ((wrap64 ((t584.length : Int) - 1)) : Int).toNat - (1 : Int).toNat := (by rw [Ny593.out, List.length_drop, List.length_take] <;> omega); rw [show ((t584).take ((wrap64 ((t584.length : Int) - 1)) : Int).toNat).drop (1 : Int).toNat = y593 from Ny593.out.symm] at hr24; replace hr24 : Kd.C Kd.string _ A24 y593.length y593 := (by rw [hA24]; exact hr24); rw [← hy24, ← hA24, ← hc24] at hcut24; have HR596 := Aside0.mk hr24; have HC596 := Aside0.mk (show y593.length ≤ c24 from by rw [hy24, hc24]; exact Nat.sub_le_sub_right (Nat.le_trans (by omega) hroom24) _); clear hr24 hC24 hroom24 hi024 hsz24 hc24; have KY24 := Aside0.mk hy24; have KA24 := Aside0.mk hA24; clear hy24 hA24; have KL24 := Aside0.mk (show ((wrap64 ((t584.length : Int) - 1)) : Int).toNat ≤ t584.length from by omega); have KM24 := Aside0.mk (show 1 ≤ ((wrap64 ((t584.length : Int) - 1)) : Int).toNat from by omega); replace q24 := eq_true q24))
        go_loopg [52] kj8 (fun kq v52 w' => ∃ (x52_2 : Int) (x584000_2 : Int) (x593001_2 : List (List Int)) (u593001 : Value), v52 = .int .i64 x52_2 ∧ Aside0 (impl_ReadFamily.l0 kq a0 y593 (y593.length : Int) x52_2 t590 x593001_2 = some (r1, r2, r3)) ∧ Aside0 (kq ≤ kj8) ∧ Aside0 (Kd.S (Kd.slice 2 (Kd.int .i64)) 65 w' w.heap.size (fun _ => True) u593001 x593001_2) ∧ Aside0 (w'.heap[gb583]? = some (.cells #[.int .i64 x584000_2, (.slice none 0 0)] 35 (0, 0))) ∧ Aside0 (w'.heap[gb592]? = some (.cells #[.int .i64 t590, u593001] 35 (0, 0))) ∧ Aside0 (Below w.heap.size w w') ∧ Aside0 (Kd.R Kd.string 9 w' w.heap.size (fun _ => True) (.slice (some ad587) t584.length co12) t584))
        case atStart => exact ⟨(0), (0), (([] : List (List Int))), (.slice none 0 0), (by first | rfl | (simp; done) | (simp [*]; done)), H', ⟨Nat.le_refl _⟩, ⟨by first | exact Kd.S_nil _ _ _ _ _ | exact Kd.N_nil _ _ _ _ _ | exact Kd.V_nil _ _ _ _ _ | exact Kd.Q_nil _ _ _ _ _ | exact Kd.R_nil _ _ _ _ _⟩, ⟨by (with_reducible repeat (first | refine blk_drewN ?_ _ | refine blk_drew ?_ | refine blk_alloc ?_ _)); exact BK583.out⟩, ⟨by (with_reducible repeat (first | refine blk_drewN ?_ _ | refine blk_drew ?_ | refine blk_alloc ?_ _)); exact BK592.out⟩, ⟨by repeat (first | (with_reducible first | exact HB.out | apply below_alloc | apply pw_below_drewN | apply below_drew1 | refine below_set ?_ GE583.out | refine below_set ?_ GE592.out) | exact HB.out)⟩, ⟨Kd.R_mono HO_4.out (fun _ _ => trivial)⟩⟩
        case round =>
         clear H'
         try clear c1
         try clear c2
         try clear c2b0
         try clear c2b1
         try clear p2
         try clear q2
         try clear c3
         try clear p5
         try clear q5
         try clear hx5
         try clear qi5
         try clear c6
         try clear c6b0
         try clear c6b1
         try clear p6
         try clear c7
         try clear c14
         try clear c15
         try clear c16
         try clear c18
         try clear c18b0
         try clear c18b1
         try clear c19
         try clear c19b0
         try clear c19b1
         try clear c21
         try clear c24
         try clear q24
         try clear hcz17_0
         try clear hcz17_1
         try clear hcz22_0
         try clear hcz22_1
         try clear hcz4_0
         try clear hcz4_1
         try clear hfz17_0
         try clear hfz17_1
         try clear hfz22_0
         try clear hfz22_1
         try clear hfz4_0
         try clear hfz4_1
         try clear hx587_0
         try clear p2
         try clear p5
         try clear p587
         try clear q24
         try clear q5
         try clear q587
         clear HO_4 HR596
         obtain ⟨x52_2, x584000_2, x593001_2, u593001, rfl, HA, HK2, HO_593001, BK583, BK592, HB, HO_4⟩ := hrel
         have hroom24 : t584.length ≤ co12 := (Kd.R_reads' HO_4.out).2.1
         have hC24 : Kd.C Kd.string _ (some ad587) t584.length t584 := (Kd.R_reads' HO_4.out).2.2
         have hr24 := Kd.C_mid (lo := (1 : Int).toNat) (hi := ((wrap64 ((t584.length : Int) - 1)) : Int).toNat) (c := co12) hC24 (by have := KL24.out; have := KM24.out; omega) (by have := KL24.out; have := KM24.out; omega) hroom24
         rw [show ((t584).take ((wrap64 ((t584.length : Int) - 1)) : Int).toNat).drop (1 : Int).toNat = y593 from Ny593.out.symm] at hr24
         replace hr24 : Kd.C Kd.string _ A24 y593.length y593 := (by rw [KA24.out]; exact hr24)
         have HR596 := Aside0.mk hr24
         clear hr24 hC24 hroom24
         cases gk with
         | zero => exact absurd HA.out (by simp [impl_ReadFamily.l0])
         | succ k2 =>
          have H := HA.out
          clear HA
          simp only [impl_ReadFamily.l0] at H
          by_cases c25 : x52_2 < (y593.length : Int)
          ·rw [if_pos c25] at H
           have c25b0 : decide (x52_2 < (y593.length : Int)) = true := decide_eq_true c25
           clear c25
           by_cases c26 : 0 ≤ x52_2
           ·rw [if_pos c26] at H
            have c26b0 : decide (0 ≤ x52_2) = true := decide_eq_true c26
            clear c26
            by_cases c27 : x52_2 < (y593.length : Int)
            ·rw [if_pos c27] at H
             have c27b0 : decide (x52_2 < (y593.length : Int)) = true := decide_eq_true c27
             clear c27
             replace H := Option.bind_eq_some_iff.mp H
             obtain ⟨⟨t598, t599⟩, A280, H⟩ := H
             replace H : (if t599 = true then (if x593001_2.length < 5864062014805 then (impl_ReadFamily.l0 k2 a0 y593 (y593.length : Int) (wrap64 (x52_2 + 1)) t590 (x593001_2 ++ [t598])) else (none)) else (some (0, ([] : List (List Int)), 5))) = some (r1, r2, r3) := H
             have A28 := Aside0.mk A280
             clear A280
             by_cases c29 : t599 = true
             ·subst c29
              have H1 : (if x593001_2.length < 5864062014805 then (impl_ReadFamily.l0 k2 a0 y593 (y593.length : Int) (wrap64 (x52_2 + 1)) t590 (x593001_2 ++ [t598])) else (none)) = some (r1, r2, r3) := by rw [if_pos rfl] at H; exact H
              clear H
              have H := H1
              clear H1
              by_cases c30 : x593001_2.length < 5864062014805
              ·rw [if_pos c30] at H
               have LMc30 := Aside0.mk c30
               clear c30
               obtain ⟨y602, hy602⟩ : ∃ y_ : List (List Int), y_ = (x593001_2 ++ [t598]) := ⟨_, rfl⟩
               replace H : (impl_ReadFamily.l0 k2 a0 y593 (y593.length : Int) (wrap64 (x52_2 + 1)) t590 y602) = some (r1, r2, r3) := by first | (rw [hy602]; with_reducible exact H) | (have H2_ := (Option.bind_some _ _).symm.trans H; rw [hy602]; with_reducible exact H2_) | (have H2_ := (Option.bind_some _ _).symm.trans H; with_reducible exact H2_) | with_reducible exact H | (rw [hy602]; exact H) | exact H
               have Ny602 := Aside0.mk hy602
               clear hy602
               have H' := Aside0.mk H
               clear H
               have p597 : 0 ≤ (x52_2 : Int) := of_decide_eq_true (by first | (with_reducible assumption) | assumption)
               have q597 : x52_2 < (y593.length : Int) := of_decide_eq_true (by first | (with_reducible assumption) | assumption)
               obtain ⟨ad597, e597, hx597_0⟩ := Kd.at_string HR596.out x52_2 p597 q597
               cases e597
               skip
               replace p597 := eq_true p597
               replace q597 := eq_true q597
               go_wp2_with (first | ((with_reducible refine gate_callee (f := 71) rfl ?_); refine goesL_ (some 58) rfl rfl Tryd.func71 (by kernel_rfl) rfl #[.string (rdOf ByteArray.empty y593 x52_2)] rfl (by (try simp only [List.map_toArray, List.map_cons, List.map_nil]); first | done | rfl | (simp only [List.length_drop, List.length_take]; rfl)) ?_; (with_reducible refine (impl_readGroup.calls k2 (rdOf ByteArray.empty y593 x52_2) t598 true _ A28.out).mono ?_); rintro e w31 ⟨v600, rfl, ho0, hb⟩; refine ⟨_, rfl, ?_⟩; have nL_ := Aside0.mk (Kd.R_below HO_4.out hb); clear HO_4; have HO_4 := nL_; clear nL_; have n0_ := Aside0.mk (Kd.S_elder' (by (with_reducible repeat (first | apply Kd.S_alloc | apply Kd.S_drewN | apply Kd.S_drew)); exact HO_593001.out) (Kd.R_base ho0) hb); have n1_ := Aside0.mk (Kd.R_lower ho0 (below_size (by repeat (first | (with_reducible first | exact HB.out | apply below_alloc | apply pw_below_drewN | apply below_drew1 | refine below_set ?_ GE583.out | refine below_set ?_ GE592.out) | exact HB.out)))); have n2_ := Aside0.mk (blk_below (g := gb583) (o := .cells #[.int .i64 x584000_2, .slice none 0 0] 35 (0, 0)) (by (with_reducible repeat (first | refine blk_drewN ?_ _ | refine blk_drew ?_ | refine blk_alloc ?_ _)); exact BK583.out) hb); have n3_ := Aside0.mk (blk_below (g := gb592) (o := .cells #[.int .i64 t590, u593001] 35 (0, 0)) (by (with_reducible repeat (first | refine blk_drewN ?_ _ | refine blk_drew ?_ | refine blk_alloc ?_ _)); exact BK592.out) hb); have n4_ := Aside0.mk (below_step (by repeat (first | (with_reducible first | exact HB.out | apply below_alloc | apply pw_below_drewN | apply below_drew1 | refine below_set ?_ GE583.out | refine below_set ?_ GE592.out) | exact HB.out)) hb); clear HO_593001; clear BK583; clear BK592; clear HB; have HO_593001 := n0_; have HO601 := n1_; have BK583 := n2_; have BK592 := n3_; have HB := n4_; clear n0_ n1_ n2_ n3_ n4_; (try clear hb); (try clear hb2); (try clear hk); (try clear hi); (try clear ho0); have hnb32 := NB592_583.out; have hnc32 := NB583_592.out; have hcz33_0 : w31.cell? ⟨gb592, 0, none⟩ = some (.int .i64 t590) := (blk_cell BK592.out 0).trans rfl; have hcz33_1 : w31.cell? ⟨gb592, 1, none⟩ = some (u593001) := (blk_cell BK592.out 1).trans rfl; have hfz33_0 := blk_frozen BK592.out 0; have hfz33_1 := blk_frozen BK592.out 1; obtain ⟨Ao35, co35, eo35⟩ := Kd.R_slice HO601.out; subst eo35) | ((with_reducible refine gate_builtin (b := .append) (xs := #[.tmp 65, .tmp 67]) rfl ?_); (try (refine gate_guard (by rfl) ?_; dsimp only)); at_builtin; refine Kd.S_append (Kd.slice 2 (Kd.int .i64)) (w0 := w) w.heap.size rfl (.tmp 65) (.tmp 67) 22 65 (.slice none 0 0) 24 rfl Tryd.underlying22 info65 rfl (by decide) (by omega) u593001 x593001_2 t598 [.slice Ao35 t598.length co35] (fun _ => True) (fun k_ => some k_ = (.slice Ao35 t598.length co35 : Value).ownBlock) rfl rfl ?aP (fun k_ hk_ => ((Kd.R_mono (ok' := fun k_ => ((fun _ => True)) k_ ∧ some k_ ≠ (u593001 : Value).ownBlock) (Kd.R_apart' (HO601.out) (Kd.S_typed HO_593001.out) (by decide)) (fun k_ hk => ⟨trivial, hk.2⟩))).1 k_ hk_.symm) ?aF ?aO ?aB ?aS ?aL ?_; (case aP => exact Kd.M_row (Kd.R_mono (Kd.R_tight rfl (Kd.R_mono (ok' := fun k_ => ((fun _ => True)) k_ ∧ some k_ ≠ (u593001 : Value).ownBlock) (Kd.R_apart' (HO601.out) (Kd.S_typed HO_593001.out) (by decide)) (fun k_ hk => ⟨trivial, hk.2⟩))) (fun _ h_ => h_))); (case aB => exact (by repeat (first | (with_reducible first | exact HB.out | apply below_alloc | apply pw_below_drewN | apply below_drew1 | refine below_set ?_ GE583.out | refine below_set ?_ GE592.out) | exact HB.out))); (case aF => exact (fun _ _ => trivial)); (case aO => exact (by (with_reducible repeat (first | apply Kd.S_alloc | apply Kd.S_drewN | apply Kd.S_drew)); exact Kd.S_mono HO_593001.out (fun k_ hk => ⟨trivial, fun e_ => hk.2 e_⟩))); (case aS => exact (below_size (by repeat (first | (with_reducible first | exact HB.out | apply below_alloc | apply pw_below_drewN | apply below_drew1 | refine below_set ?_ GE583.out | refine below_set ?_ GE592.out) | exact HB.out)))); (case aL => have := LMc30.out; omega); intro v603 w34 ho hb hg hat; rw [← Ny602.out] at ho; have nL_ := Aside0.mk (Kd.R_over' HO_4.out (Kd.S_typed HO_593001.out) (by decide) hg); clear HO_4; have HO_4 := nL_; clear nL_; have n0_ := Aside0.mk (blk_grown (g := gb583) (o := .cells #[.int .i64 x584000_2, .slice none 0 0] 35 (0, 0)) (by (with_reducible repeat (first | refine blk_drewN ?_ _ | refine blk_drew ?_ | refine blk_alloc ?_ _)); exact BK583.out) hg (Kd.S_ne HO_593001.out BK583.out (by decide))); have n1_ := Aside0.mk (blk_grown (g := gb592) (o := .cells #[.int .i64 t590, u593001] 35 (0, 0)) (by (with_reducible repeat (first | refine blk_drewN ?_ _ | refine blk_drew ?_ | refine blk_alloc ?_ _)); exact BK592.out) hg (Kd.S_ne HO_593001.out BK592.out (by decide))); have n2_ := Aside0.mk (hb); have n3_ := Aside0.mk (ho); clear BK583; clear BK592; clear HB; clear HO_593001; clear HO601; have BK583 := n0_; have BK592 := n1_; have HB := n2_; have HO604 := n3_; clear n0_ n1_ n2_ n3_; clear ho hb hg hat; obtain ⟨Ao36, co36, eo36⟩ := Kd.S_slice HO604.out; subst eo36; have hcz37_0 : w34.cell? ⟨gb592, 0, none⟩ = some (.int .i64 t590) := (blk_cell BK592.out 0).trans rfl; have hcz37_1 : w34.cell? ⟨gb592, 1, none⟩ = some (u593001) := (blk_cell BK592.out 1).trans rfl; have hfz37_0 := blk_frozen BK592.out 0; have hfz37_1 := blk_frozen BK592.out 1))
               go_roundg k2
               case measure => have := HJ8.out; have := HK2.out; omega
               case rel => exact ⟨(wrap64 (x52_2 + 1)), (x584000_2), (y602), (.slice Ao36 y602.length co36), (by first | rfl | (simp; done) | (simp [*]; done)), H', ⟨by have := HJ8.out; have := HK2.out; omega⟩, ⟨by (with_reducible repeat (first | apply Kd.S_alloc | apply Kd.S_drewN | apply Kd.S_drew)); exact Kd.S_mono (Kd.S_far (p := ⟨gb592, 1, none⟩) (Kd.S_types HO604.out BK592.out (by decide)) (fun _ hk => hk.2) (.slice Ao36 y602.length co36)) (fun _ hk => trivial)⟩, ⟨by (with_reducible repeat (first | refine blk_drewN ?_ _ | refine blk_drew ?_ | refine blk_alloc ?_ _)); refine blk_far ?_ NB583_592.out _; (with_reducible repeat (first | refine blk_drewN ?_ _ | refine blk_drew ?_ | refine blk_alloc ?_ _)); exact BK583.out⟩, ⟨by (with_reducible repeat (first | refine blk_drewN ?_ _ | refine blk_drew ?_ | refine blk_alloc ?_ _)); refine blk_put (cs := #[.int .i64 t590, u593001]) ?_ 1 _ rfl; (with_reducible repeat (first | refine blk_drewN ?_ _ | refine blk_drew ?_ | refine blk_alloc ?_ _)); exact BK592.out⟩, ⟨by repeat (first | (with_reducible first | exact HB.out | apply below_alloc | apply pw_below_drewN | apply below_drew1 | refine below_set ?_ GE583.out | refine below_set ?_ GE592.out) | exact HB.out)⟩, ⟨Kd.R_set HO_4.out BK592.out (by decide) 1 (.slice Ao36 y602.length co36)⟩⟩
              ·rw [if_neg c30] at H
               exact absurd H (by simp)
             ·replace c29 := Bool.eq_false_iff.mpr c29
              subst c29
              have H1 : (some (0, ([] : List (List Int)), 5)) = some (r1, r2, r3) := by rw [if_neg (show ¬ (false = true) by decide)] at H; exact H
              clear H
              have H := H1
              clear H1
              simp only [Option.some.injEq, Prod.mk.injEq] at H
              obtain ⟨rfl, rfl, rfl⟩ := H
              have p597 : 0 ≤ (x52_2 : Int) := of_decide_eq_true (by first | (with_reducible assumption) | assumption)
              have q597 : x52_2 < (y593.length : Int) := of_decide_eq_true (by first | (with_reducible assumption) | assumption)
              obtain ⟨ad597, e597, hx597_0⟩ := Kd.at_string HR596.out x52_2 p597 q597
              cases e597
              skip
              replace p597 := eq_true p597
              replace q597 := eq_true q597
              go_wp2_with (first | ((with_reducible refine gate_callee (f := 71) rfl ?_); refine goesL_ (some 58) rfl rfl Tryd.func71 (by kernel_rfl) rfl #[.string (rdOf ByteArray.empty y593 x52_2)] rfl (by (try simp only [List.map_toArray, List.map_cons, List.map_nil]); first | done | rfl | (simp only [List.length_drop, List.length_take]; rfl)) ?_; (with_reducible refine (impl_readGroup.calls k2 (rdOf ByteArray.empty y593 x52_2) t598 false _ A28.out).mono ?_); rintro e w38 ⟨v600, rfl, ho0, hb⟩; refine ⟨_, rfl, ?_⟩; have n0_ := Aside0.mk (Kd.S_elder' (by (with_reducible repeat (first | apply Kd.S_alloc | apply Kd.S_drewN | apply Kd.S_drew)); exact HO_593001.out) (Kd.R_base ho0) hb); have n1_ := Aside0.mk (Kd.R_lower ho0 (below_size (by repeat (first | (with_reducible first | exact HB.out | apply below_alloc | apply pw_below_drewN | apply below_drew1 | refine below_set ?_ GE583.out | refine below_set ?_ GE592.out) | exact HB.out)))); have n2_ := Aside0.mk (blk_below (g := gb583) (o := .cells #[.int .i64 x584000_2, .slice none 0 0] 35 (0, 0)) (by (with_reducible repeat (first | refine blk_drewN ?_ _ | refine blk_drew ?_ | refine blk_alloc ?_ _)); exact BK583.out) hb); have n3_ := Aside0.mk (blk_below (g := gb592) (o := .cells #[.int .i64 t590, u593001] 35 (0, 0)) (by (with_reducible repeat (first | refine blk_drewN ?_ _ | refine blk_drew ?_ | refine blk_alloc ?_ _)); exact BK592.out) hb); have n4_ := Aside0.mk (below_step (by repeat (first | (with_reducible first | exact HB.out | apply below_alloc | apply pw_below_drewN | apply below_drew1 | refine below_set ?_ GE583.out | refine below_set ?_ GE592.out) | exact HB.out)) hb); clear HO_593001; clear BK583; clear BK592; clear HB; have HO_593001 := n0_; have HO601 := n1_; have BK583 := n2_; have BK592 := n3_; have HB := n4_; clear n0_ n1_ n2_ n3_ n4_; (try clear hb); (try clear hb2); (try clear hk); (try clear hi); (try clear ho0); have hnb39 := NB583_592.out; have hnc39 := NB592_583.out; have hcz40_0 : w38.cell? ⟨gb583, 0, none⟩ = some (.int .i64 x584000_2) := (blk_cell BK583.out 0).trans rfl; have hcz40_1 : w38.cell? ⟨gb583, 1, none⟩ = some (.slice none 0 0) := (blk_cell BK583.out 1).trans rfl; have hfz40_0 := blk_frozen BK583.out 0; have hfz40_1 := blk_frozen BK583.out 1))
              refine bodyPost_ret (results_ct rfl _ _ gb583 35 #[.int .i64 0, .slice none 0 0] (0, 0) _ rfl (by (with_reducible repeat (first | refine blk_drewN ?_ _ | refine blk_drew ?_ | refine blk_alloc ?_ _)); refine blk_put (cs := #[.int .i64 0, .slice none 0 0]) ?_ 1 _ rfl; (with_reducible repeat (first | refine blk_drewN ?_ _ | refine blk_drew ?_ | refine blk_alloc ?_ _)); refine blk_put (cs := #[.int .i64 x584000_2, .slice none 0 0]) ?_ 0 _ rfl; (with_reducible repeat (first | refine blk_drewN ?_ _ | refine blk_drew ?_ | refine blk_alloc ?_ _)); exact BK583.out) Tryd.underlying35 rfl (by kernel_rfl)) rfl ?_
              exact ⟨_, by first | rfl | (simp [errW_none, errW_some] <;> rfl) | (simp [*, errW_none, errW_some] <;> rfl), by first | exact Kd.S_nil _ _ _ _ _ | exact Kd.N_nil _ _ _ _ _ | exact Kd.V_nil _ _ _ _ _ | exact Kd.Q_nil _ _ _ _ _ | exact Kd.R_nil _ _ _ _ _, by repeat (first | (with_reducible first | exact HB.out | apply below_alloc | apply pw_below_drewN | apply below_drew1 | refine below_set ?_ GE583.out | refine below_set ?_ GE592.out) | exact HB.out)⟩
            ·rw [if_neg c27] at H
             exact absurd H (by simp)
           ·rw [if_neg c26] at H
            exact absurd H (by simp)
          ·rw [if_neg c25] at H
           have c25b0 : decide (x52_2 < (y593.length : Int)) = false := decide_eq_false c25
           clear c25
           replace H := Option.bind_eq_some_iff.mp H
           obtain ⟨t605, A410, H⟩ := H
           replace H : (if t605.toList = a0.toList then (some (t590, x593001_2, 0)) else (some (0, ([] : List (List Int)), 5))) = some (r1, r2, r3) := H
           have A41 := Aside0.mk A410
           clear A410
           by_cases c42 : t605.toList = a0.toList
           ·rw [if_pos c42] at H
            have c42b0 : (t605.toList == a0.toList) = true := beq_iff_eq.mpr c42
            have c42b1 : (t605.toList != a0.toList) = false := bne_eq_false_iff_eq.mpr c42
            clear c42
            simp only [Option.some.injEq, Prod.mk.injEq] at H
            obtain ⟨rfl, rfl, rfl⟩ := H
            have hnb43 := NB592_583.out
            have hnc43 := NB583_592.out
            have hcz44_0 : wr.cell? ⟨gb592, 0, none⟩ = some (.int .i64 t590) := (blk_cell BK592.out 0).trans rfl
            have hcz44_1 : wr.cell? ⟨gb592, 1, none⟩ = some (u593001) := (blk_cell BK592.out 1).trans rfl
            have hfz44_0 := blk_frozen BK592.out 0
            have hfz44_1 := blk_frozen BK592.out 1
            obtain ⟨Ao45, co45, eo45⟩ := Kd.S_slice HO_593001.out
            subst eo45
            go_wp2_with (first | ((with_reducible refine gate_callee (f := 17) rfl ?_); refine goesL_ (some 72) rfl rfl Tryd.func17 (by kernel_rfl) rfl #[.agg #[.int .i64 t590, .slice Ao45 x593001_2.length co45]] rfl (by (try simp only [List.map_toArray, List.map_cons, List.map_nil]); first | done | rfl | (simp only [List.length_drop, List.length_take]; rfl)) ?_; (with_reducible refine (impl_FamilyText.calls k2 t590 _ _ x593001_2 t605 _ ?side1 ?side2 A41.out).mono ?_); (case side1 => repeat (first | exact (Kd.S_reads' HO_593001.out).2.2 | (with_reducible refine Kd.C_alloc ?_ _) | (with_reducible refine Kd.C_drewN ?_ _) | (with_reducible refine Kd.C_drew ?_))); (case side2 => exact (Kd.S_reads' HO_593001.out).2.1); rintro e w46 ⟨rfl, hb⟩; refine ⟨_, rfl, ?_⟩; have n0_ := Aside0.mk (Kd.S_below (by (with_reducible repeat (first | apply Kd.S_alloc | apply Kd.S_drewN | apply Kd.S_drew)); exact HO_593001.out) hb); have n1_ := Aside0.mk (blk_below (g := gb583) (o := .cells #[.int .i64 x584000_2, .slice none 0 0] 35 (0, 0)) (by (with_reducible repeat (first | refine blk_drewN ?_ _ | refine blk_drew ?_ | refine blk_alloc ?_ _)); exact BK583.out) hb); have n2_ := Aside0.mk (blk_below (g := gb592) (o := .cells #[.int .i64 t590, .slice Ao45 x593001_2.length co45] 35 (0, 0)) (by (with_reducible repeat (first | refine blk_drewN ?_ _ | refine blk_drew ?_ | refine blk_alloc ?_ _)); exact BK592.out) hb); have n3_ := Aside0.mk (below_step (by repeat (first | (with_reducible first | exact HB.out | apply below_alloc | apply pw_below_drewN | apply below_drew1 | refine below_set ?_ GE583.out | refine below_set ?_ GE592.out) | exact HB.out)) hb); clear HO_593001; clear BK583; clear BK592; clear HB; have HO_593001 := n0_; have BK583 := n1_; have BK592 := n2_; have HB := n3_; clear n0_ n1_ n2_ n3_; (try clear hb); (try clear hb2); (try clear hk); (try clear hi); have hcz47_0 : w46.cell? ⟨gb592, 0, none⟩ = some (.int .i64 t590) := (blk_cell BK592.out 0).trans rfl; have hcz47_1 : w46.cell? ⟨gb592, 1, none⟩ = some (.slice Ao45 x593001_2.length co45) := (blk_cell BK592.out 1).trans rfl; have hfz47_0 := blk_frozen BK592.out 0; have hfz47_1 := blk_frozen BK592.out 1; have hcz48_0 : w46.cell? ⟨gb583, 0, none⟩ = some (.int .i64 x584000_2) := (blk_cell BK583.out 0).trans rfl; have hcz48_1 : w46.cell? ⟨gb583, 1, none⟩ = some (.slice none 0 0) := (blk_cell BK583.out 1).trans rfl; have hfz48_0 := blk_frozen BK583.out 0; have hfz48_1 := blk_frozen BK583.out 1))
            refine bodyPost_ret (results_ct rfl _ _ gb583 35 #[.int .i64 t590, .slice Ao45 x593001_2.length co45] (0, 0) _ rfl (by (with_reducible repeat (first | refine blk_drewN ?_ _ | refine blk_drew ?_ | refine blk_alloc ?_ _)); refine blk_put (cs := #[.int .i64 t590, .slice none 0 0]) ?_ 1 _ rfl; (with_reducible repeat (first | refine blk_drewN ?_ _ | refine blk_drew ?_ | refine blk_alloc ?_ _)); refine blk_put (cs := #[.int .i64 x584000_2, .slice none 0 0]) ?_ 0 _ rfl; (with_reducible repeat (first | refine blk_drewN ?_ _ | refine blk_drew ?_ | refine blk_alloc ?_ _)); exact BK583.out) Tryd.underlying35 rfl (by kernel_rfl)) rfl ?_
            exact ⟨_, by first | rfl | (simp [errW_none, errW_some] <;> rfl) | (simp [*, errW_none, errW_some] <;> rfl), by (with_reducible repeat (first | apply Kd.S_alloc | apply Kd.S_drewN | apply Kd.S_drew)); exact Kd.S_mono (Kd.S_far (p := ⟨gb583, 1, none⟩) (Kd.S_far (p := ⟨gb583, 0, none⟩) (Kd.S_types HO_593001.out BK583.out (by decide)) (fun _ hk => hk.2) (.int .i64 t590)) (fun _ hk => hk.2) (.slice Ao45 x593001_2.length co45)) (fun _ hk => trivial), by repeat (first | (with_reducible first | exact HB.out | apply below_alloc | apply pw_below_drewN | apply below_drew1 | refine below_set ?_ GE583.out | refine below_set ?_ GE592.out) | exact HB.out)⟩
           ·rw [if_neg c42] at H
            have c42b0 : (t605.toList == a0.toList) = false := beq_eq_false_iff_ne.mpr c42
            have c42b1 : (t605.toList != a0.toList) = true := bne_iff_ne.mpr c42
            simp only [Option.some.injEq, Prod.mk.injEq] at H
            obtain ⟨rfl, rfl, rfl⟩ := H
            have hnb49 := NB592_583.out
            have hnc49 := NB583_592.out
            have hcz50_0 : wr.cell? ⟨gb592, 0, none⟩ = some (.int .i64 t590) := (blk_cell BK592.out 0).trans rfl
            have hcz50_1 : wr.cell? ⟨gb592, 1, none⟩ = some (u593001) := (blk_cell BK592.out 1).trans rfl
            have hfz50_0 := blk_frozen BK592.out 0
            have hfz50_1 := blk_frozen BK592.out 1
            obtain ⟨Ao51, co51, eo51⟩ := Kd.S_slice HO_593001.out
            subst eo51
            go_wp2_with (first | ((with_reducible refine gate_callee (f := 17) rfl ?_); refine goesL_ (some 72) rfl rfl Tryd.func17 (by kernel_rfl) rfl #[.agg #[.int .i64 t590, .slice Ao51 x593001_2.length co51]] rfl (by (try simp only [List.map_toArray, List.map_cons, List.map_nil]); first | done | rfl | (simp only [List.length_drop, List.length_take]; rfl)) ?_; (with_reducible refine (impl_FamilyText.calls k2 t590 _ _ x593001_2 t605 _ ?side1 ?side2 A41.out).mono ?_); (case side1 => repeat (first | exact (Kd.S_reads' HO_593001.out).2.2 | (with_reducible refine Kd.C_alloc ?_ _) | (with_reducible refine Kd.C_drewN ?_ _) | (with_reducible refine Kd.C_drew ?_))); (case side2 => exact (Kd.S_reads' HO_593001.out).2.1); rintro e w52 ⟨rfl, hb⟩; refine ⟨_, rfl, ?_⟩; have n0_ := Aside0.mk (Kd.S_below (by (with_reducible repeat (first | apply Kd.S_alloc | apply Kd.S_drewN | apply Kd.S_drew)); exact HO_593001.out) hb); have n1_ := Aside0.mk (blk_below (g := gb583) (o := .cells #[.int .i64 x584000_2, .slice none 0 0] 35 (0, 0)) (by (with_reducible repeat (first | refine blk_drewN ?_ _ | refine blk_drew ?_ | refine blk_alloc ?_ _)); exact BK583.out) hb); have n2_ := Aside0.mk (blk_below (g := gb592) (o := .cells #[.int .i64 t590, .slice Ao51 x593001_2.length co51] 35 (0, 0)) (by (with_reducible repeat (first | refine blk_drewN ?_ _ | refine blk_drew ?_ | refine blk_alloc ?_ _)); exact BK592.out) hb); have n3_ := Aside0.mk (below_step (by repeat (first | (with_reducible first | exact HB.out | apply below_alloc | apply pw_below_drewN | apply below_drew1 | refine below_set ?_ GE583.out | refine below_set ?_ GE592.out) | exact HB.out)) hb); clear HO_593001; clear BK583; clear BK592; clear HB; have HO_593001 := n0_; have BK583 := n1_; have BK592 := n2_; have HB := n3_; clear n0_ n1_ n2_ n3_; (try clear hb); (try clear hb2); (try clear hk); (try clear hi); have hcz53_0 : w52.cell? ⟨gb583, 0, none⟩ = some (.int .i64 x584000_2) := (blk_cell BK583.out 0).trans rfl; have hcz53_1 : w52.cell? ⟨gb583, 1, none⟩ = some (.slice none 0 0) := (blk_cell BK583.out 1).trans rfl; have hfz53_0 := blk_frozen BK583.out 0; have hfz53_1 := blk_frozen BK583.out 1))
            refine bodyPost_ret (results_ct rfl _ _ gb583 35 #[.int .i64 0, .slice none 0 0] (0, 0) _ rfl (by (with_reducible repeat (first | refine blk_drewN ?_ _ | refine blk_drew ?_ | refine blk_alloc ?_ _)); refine blk_put (cs := #[.int .i64 0, .slice none 0 0]) ?_ 1 _ rfl; (with_reducible repeat (first | refine blk_drewN ?_ _ | refine blk_drew ?_ | refine blk_alloc ?_ _)); refine blk_put (cs := #[.int .i64 x584000_2, .slice none 0 0]) ?_ 0 _ rfl; (with_reducible repeat (first | refine blk_drewN ?_ _ | refine blk_drew ?_ | refine blk_alloc ?_ _)); exact BK583.out) Tryd.underlying35 rfl (by kernel_rfl)) rfl ?_
            exact ⟨_, by first | rfl | (simp [errW_none, errW_some] <;> rfl) | (simp [*, errW_none, errW_some] <;> rfl), by first | exact Kd.S_nil _ _ _ _ _ | exact Kd.N_nil _ _ _ _ _ | exact Kd.V_nil _ _ _ _ _ | exact Kd.Q_nil _ _ _ _ _ | exact Kd.R_nil _ _ _ _ _, by repeat (first | (with_reducible first | exact HB.out | apply below_alloc | apply pw_below_drewN | apply below_drew1 | refine below_set ?_ GE583.out | refine below_set ?_ GE592.out) | exact HB.out)⟩
       ·rw [if_neg c19] at H
        exact absurd H (by simp)
      ·rw [if_neg c18] at H
       exact absurd H (by simp)
  ·rw [if_neg c6] at H
   exact absurd H (by simp)
def laws_markInt64S.l0 : Nat → List Int → Int → Int → Option (Int × List Int)
 | 0, _, _, _ => none
 | k + 1, x0, x1, x5 => if x5 < (x0.length : Int) then (if 0 ≤ x5 then (laws_markInt64S.l0 k (x0.set (x5 : Int).toNat x1) (wrap64 (x1 + 1)) (wrap64 (x5 + 1))) else (none)) else (some (x1, x0))
def laws_markInt64S.f (k : Nat) (l0 : List Int) (a1 : Int) : Option (Int × List Int) := laws_markInt64S.l0 k l0 a1 0
set_option maxHeartbeats 8000000 in
set_option maxRecDepth 100000 in
theorem laws_markInt64S.calls (k : Nat) (P0_ : Nat → Prop) (u9000_ : Value) (l0 : List Int) (a1 : Int) (r1 : Int) (r2 : List Int) (w0 w : World) (hB : Below w0.heap.size w0 w) (ho0 : Kd.R (Kd.int .i64) 2 w w0.heap.size P0_ u9000_ l0) (h : laws_markInt64S.f k l0 a1 = some (r1, r2)) :
  Calls Tryd.prog 100 #[u9000_, .int .i64 a1] w fun e w' => e = .returned (.int .i64 r1) ∧ Kd.R (Kd.int .i64) 2 w' w0.heap.size (fun k_ => (P0_ k_ ∨ w.heap.size ≤ k_)) u9000_ r2 ∧ Below w0.heap.size w0 w' ∧ Kept w w' (fun k_ => P0_ k_) := by
 have HO0 := Aside0.mk (show Kd.R (Kd.int .i64) 2 w w0.heap.size (fun k_ => (P0_ k_ ∨ w.heap.size ≤ k_)) u9000_ l0 from Kd.R_mono ho0 (fun k_ hk => (.inl hk)))
 have HK := Aside0.mk (Kept.refl w (fun k_ => P0_ k_))
 have HW0 := Aside0.mk hB.size
 have HB := Aside0.mk hB
 clear hB
 have H : (laws_markInt64S.l0 k l0 a1 0) = some (r1, r2) := h
 clear h
 have H' := Aside0.mk H
 clear H
 go_enter Tryd.func100, Tryd.ntmps100
 go_wp2
 go_loopg [1, 5] k (fun kq v1 v5 w' => ∃ (x0_1 : List Int) (x1_1 : Int) (x5_1 : Int), v1 = .int .i64 x1_1 ∧ v5 = .int .i64 x5_1 ∧ Aside0 (laws_markInt64S.l0 kq x0_1 x1_1 x5_1 = some (r1, r2)) ∧ Aside0 (kq ≤ k) ∧ Aside0 (Kd.R (Kd.int .i64) 2 w' w0.heap.size (fun k_ => (P0_ k_ ∨ w.heap.size ≤ k_)) u9000_ x0_1) ∧ Aside0 (Kept w w' (fun k_ => P0_ k_)) ∧ Aside0 (Below w0.heap.size w0 w'))
 case atStart => exact ⟨(l0), (a1), (0), (by first | rfl | (simp; done) | (simp [*]; done)), (by first | rfl | (simp; done) | (simp [*]; done)), H', ⟨Nat.le_refl _⟩, ⟨by (with_reducible repeat (first | apply Kd.R_alloc | apply Kd.R_drewN | apply Kd.R_drew)); exact HO0.out⟩, ⟨by repeat (first | (with_reducible first | exact HK.out | apply Kept.alloc | apply Kept.drewN | apply Kept.drew) | exact HK.out)⟩, ⟨by repeat (first | (with_reducible first | exact HB.out | apply below_alloc | apply pw_below_drewN | apply below_drew1) | exact HB.out)⟩⟩
 case round =>
  clear H'
  try clear c1
  try clear p2
  obtain ⟨x0_1, x1_1, x5_1, rfl, rfl, HA, HK1, HO_0, HK, HB⟩ := hrel
  cases gk with
  | zero => exact absurd HA.out (by simp [laws_markInt64S.l0])
  | succ k1 =>
   have H := HA.out
   clear HA
   simp only [laws_markInt64S.l0] at H
   by_cases c3 : x5_1 < (x0_1.length : Int)
   ·rw [if_pos c3] at H
    have c3b0 : decide (x5_1 < (x0_1.length : Int)) = true := decide_eq_true c3
    clear c3
    by_cases c4 : 0 ≤ x5_1
    ·rw [if_pos c4] at H
     have c4b0 : decide (0 ≤ x5_1) = true := decide_eq_true c4
     clear c4
     obtain ⟨y475, hy475⟩ : ∃ y_ : List Int, y_ = (x0_1.set (x5_1 : Int).toNat x1_1) := ⟨_, rfl⟩
     replace H : (laws_markInt64S.l0 k1 y475 (wrap64 (x1_1 + 1)) (wrap64 (x5_1 + 1))) = some (r1, r2) := by first | (rw [hy475]; with_reducible exact H) | (have H2_ := (Option.bind_some _ _).symm.trans H; rw [hy475]; with_reducible exact H2_) | (have H2_ := (Option.bind_some _ _).symm.trans H; with_reducible exact H2_) | with_reducible exact H | (rw [hy475]; exact H) | exact H
     have Ny475 := Aside0.mk hy475
     clear hy475
     have H' := Aside0.mk H
     clear H
     obtain ⟨Ao6, co6, eo6⟩ := Kd.R_slice HO_0.out
     subst eo6
     have p5 : 0 ≤ (x5_1 : Int) := of_decide_eq_true (by first | (with_reducible assumption) | assumption)
     have q5 : (x5_1 : Int) < ((x0_1.length : Int) : Int) := of_decide_eq_true (by first | (with_reducible assumption) | assumption)
     obtain ⟨go5, co5, eo5, gb5, gl5, cl5, HG5⟩ := Kd.R_form HO_0.out (by omega)
     (first | cases eo5 | (injection eo5 with ea_ en_ ec_; (first | subst ea_ | (injection ea_ with ea_; subst ea_)); subst ec_; clear en_))
     have GB5 := Aside0.mk gb5
     have GG5 := Aside0.mk HG5
     clear gb5 gl5 HG5
     have HMgo5 := Aside0.mk (show (P0_ go5 ∨ w.heap.size ≤ go5) from (HO_0.out.1 _ rfl))
     obtain ⟨hx5_0, hf5_0⟩ := Kd.R_celln 0 HO_0.out (x5_1 : Int) p5 q5
     replace p5 := eq_true p5
     replace q5 := eq_true q5
     have HP7 := Kd.R_putg HO_0.out (x5_1 : Int) x1_1
     go_wp2_with (first | ((with_reducible refine gate_store (t := 2) (p := 15) rfl ?_); refine store_event (t := 2) (p := 15) (v := ?vo_w8) (w1 := (wr.setCell ⟨go5, (x5_1 : Int).toNat, none⟩ (.int .i64 x1_1))) ?hg ?ho ?hn ?hr ?_; (case ho => rfl); (case hg => rfl); (case hn => rfl); (case hr => first | (go_simp; done) | (go_simp; rfl)); intro w8 hw; have hg : wr.grownBy w8 (some go5) := (by rw [hw]; exact HP7.2); have hp_ : Kd.R (Kd.int .i64) 2 w8 w0.heap.size (fun k_ => (P0_ k_ ∨ w.heap.size ≤ k_)) (.slice (some ⟨go5, 0, none⟩) x0_1.length co6) y475 := (by rw [hw, Ny475.out]; exact HP7.1); clear HP7; have n0_ := Aside0.mk (hp_); have n1_ := Aside0.mk ((by rw [hw]; exact below_set (HB.out) GB5.out : Below w0.heap.size w0 w8)); have n2_ := Aside0.mk (Kept.of_grown (S := (fun k_ => P0_ k_)) hg (by repeat (first | (with_reducible first | exact HK.out | apply Kept.alloc | apply Kept.drewN | apply Kept.drew) | exact HK.out)) (fun k_ e_ => (HO_0.out.1 k_ e_))); clear HO_0; clear HB; clear HK; have HO_0 := n0_; have HB := n1_; have HK := n2_; clear n0_ n1_ n2_; clear hg hw hp_))
     go_roundg k1
     case measure => have := HK1.out; omega
     case rel => exact ⟨(y475), (wrap64 (x1_1 + 1)), (wrap64 (x5_1 + 1)), (by first | rfl | (simp; done) | (simp [*]; done)), (by first | rfl | (simp; done) | (simp [*]; done)), H', ⟨by have := HK1.out; omega⟩, ⟨by (with_reducible repeat (first | apply Kd.R_alloc | apply Kd.R_drewN | apply Kd.R_drew)); exact HO_0.out⟩, ⟨by repeat (first | (with_reducible first | exact HK.out | apply Kept.alloc | apply Kept.drewN | apply Kept.drew) | exact HK.out)⟩, ⟨by repeat (first | (with_reducible first | exact HB.out | apply below_alloc | apply pw_below_drewN | apply below_drew1) | exact HB.out)⟩⟩
    ·rw [if_neg c4] at H
     exact absurd H (by simp)
   ·rw [if_neg c3] at H
    have c3b0 : decide (x5_1 < (x0_1.length : Int)) = false := decide_eq_false c3
    clear c3
    simp only [Option.some.injEq, Prod.mk.injEq] at H
    obtain ⟨rfl, rfl⟩ := H
    obtain ⟨Ao9, co9, eo9⟩ := Kd.R_slice HO_0.out
    subst eo9
    go_wp2
    go_ret
    exact ⟨by first | rfl | (simp [errW_none, errW_some] <;> rfl) | (simp [*, errW_none, errW_some] <;> rfl), by (with_reducible repeat (first | apply Kd.R_alloc | apply Kd.R_drewN | apply Kd.R_drew)); exact HO_0.out, by repeat (first | (with_reducible first | exact HB.out | apply below_alloc | apply pw_below_drewN | apply below_drew1) | exact HB.out), by repeat (first | (with_reducible first | exact HK.out | apply Kept.alloc | apply Kept.drewN | apply Kept.drew) | exact HK.out)⟩
theorem laws_markInt64S.callsM (k : Nat) (P0_ : Nat → Prop) (u : Value) (l0 : List Int) (a1 : Int) (r1 : Int) (r2 : List Int) (w0 w : World) (hB : Below w0.heap.size w0 w) (ho0 : Kd.R (Kd.int .i64) 2 w w0.heap.size P0_ u l0) (h : laws_markInt64S.f k l0 a1 = some (r1, r2)) :
  Calls Tryd.prog 100 #[u, .int .i64 a1] w fun e w' => e = .returned (.int .i64 r1) ∧ Kd.R (Kd.int .i64) 2 w' w0.heap.size P0_ u r2 ∧ Below w0.heap.size w0 w' ∧ Kept w w' P0_ := by
 refine (laws_markInt64S.calls k P0_ u l0 a1 r1 r2 w0 w hB ho0 h).mono ?_
 rintro e w' ⟨he, hr, hb, hk⟩
 exact ⟨he, Kd.R_reok rfl hr (fun k_ e_ => ho0.1 k_ e_), hb, hk⟩
def laws_markInt64SS.l0 : Nat → List (List Int) → Int → Int → Option (Int × List (List Int))
 | 0, _, _, _ => none
 | k + 1, xs, m, i => if i < (xs.length : Int) then (if 0 ≤ i then ((laws_markInt64S.f k (rd_L1 xs i) m).bind fun t => laws_markInt64SS.l0 k (xs.set i.toNat t.2) t.1 (wrap64 (i + 1))) else none) else some (m, xs)
def laws_markInt64SS.f (k : Nat) (l0 : List (List Int)) (a1 : Int) : Option (Int × List (List Int)) := laws_markInt64SS.l0 k l0 a1 0
set_option maxHeartbeats 8000000 in
set_option maxRecDepth 100000 in
theorem laws_markInt64SS.callsM (k : Nat) (P0_ : Nat → Prop) (u : Value) (l0 : List (List Int)) (a1 : Int) (r1 : Int) (r2 : List (List Int)) (w0 w : World) (hB : Below w0.heap.size w0 w) (ho0 : Kd.S (Kd.slice 2 (Kd.int .i64)) 65 w w0.heap.size P0_ u l0) (h : laws_markInt64SS.f k l0 a1 = some (r1, r2)) :
  Calls Tryd.prog 65 #[u, .int .i64 a1] w fun e w' => e = .returned (.int .i64 r1) ∧ Kd.S (Kd.slice 2 (Kd.int .i64)) 65 w' w0.heap.size P0_ u r2 ∧ Below w0.heap.size w0 w' ∧ Kept w w' P0_ := by
 obtain ⟨Ao, co, rfl⟩ := Kd.S_slice ho0
 have HO := Aside0.mk ho0
 have HB := Aside0.mk hB
 have HK := Aside0.mk (Kept.refl w P0_)
 have H' := Aside0.mk h
 clear ho0 hB h
 go_enter Tryd.func65, Tryd.ntmps65
 go_wp2
 go_loopg [1, 5] k (fun kq v1 v5 w' => ∃ (x1 x5 : Int) (xs : List (List Int)), v1 = .int .i64 x1 ∧ v5 = .int .i64 x5 ∧ Aside0 (laws_markInt64SS.l0 kq xs x1 x5 = some (r1, r2)) ∧ Aside0 (kq ≤ k) ∧ Aside0 (Kd.S (Kd.slice 2 (Kd.int .i64)) 65 w' w0.heap.size P0_ (.slice Ao l0.length co) xs) ∧ Aside0 (Below w0.heap.size w0 w') ∧ Aside0 (Kept w w' P0_))
 case atStart => exact ⟨a1, 0, l0, rfl, rfl, H', ⟨Nat.le_refl _⟩, HO, HB, HK⟩
 case round =>
  clear H' HB HK HO
  obtain ⟨x1, x5, xs, rfl, rfl, HA, HK1, HO, HB, HK⟩ := hrel
  cases gk with
  | zero => exact absurd HA.out (by simp [laws_markInt64SS.l0])
  | succ k1 =>
   have H := HA.out
   clear HA
   simp only [laws_markInt64SS.l0] at H
   have hlen := (Kd.S_reads' HO.out).1
   by_cases c6 : x5 < (xs.length : Int)
   ·rw [if_pos c6] at H
    have c6b0 : decide (x5 < (l0.length : Int)) = true := decide_eq_true (by omega)
    by_cases c7 : 0 ≤ x5
    ·rw [if_pos c7] at H
     have c7b0 : decide (0 ≤ x5) = true := decide_eq_true c7
     replace H := Option.bind_eq_some_iff.mp H
     obtain ⟨⟨t1, t2⟩, At, H⟩ := H
     have A3 := Aside0.mk At
     have H' := Aside0.mk H
     clear At H
     obtain ⟨g, cap, eo, hg0, hg1, _⟩ := Kd.S_form HO.out (by omega)
     injection eo with ea_ en_ ec_
     subst ea_
     obtain ⟨oki, c, hcl, hM, hcc, hoki, hH⟩ := Kd.S_lend HO.out ([] : List Int) x5 c7 (by omega)
     obtain ⟨v1, rfl, hR⟩ := hM
     have hx := hcc 0 _ rfl
     simp only [show (Kd.slice 2 (Kd.int .i64)).sz = 1 from rfl, Nat.mul_one, Nat.add_zero] at hx
     obtain ⟨Ae, ce, rfl⟩ := Kd.R_slice hR
     have HR := Aside0.mk hR
     have HH := Aside0.mk hH
     have HOK := Aside0.mk hoki
     have p6 : (x5 < (l0.length : Int)) = True := eq_true (by omega)
     have p7 := eq_true c7
     clear hR hH hoki hcc hcl hg0 hg1 en_ ec_ c6 c7 hlen
     go_wp2_with (first | (go_at_call 100; (refine (laws_markInt64S.callsM k1 oki _ (xs.getD x5.toNat []) x1 t1 t2 w0 _ ?side1 ?side2 A3.out).mono ?_); (case side1 => exact HB.out); (case side2 => exact HR.out); rintro e w' ⟨rfl, hr, hb, hk⟩))
     go_roundg k1
     case measure => have := HK1.out; omega
     case rel => exact ⟨t1, _, xs.set x5.toNat t2, rfl, rfl, H', ⟨by have := HK1.out; omega⟩, ⟨Kd.H_back (Kd.H_kept HH.out hk (fun k_ _ hn => hn)) ⟨_, rfl, hr⟩ (fun _ h => h)⟩, ⟨hb⟩, ⟨Kept.then_ HK.out hk (fun k_ h_ => .inl (HOK.out k_ h_).1)⟩⟩
    ·rw [if_neg c7] at H
     exact absurd H (by simp)
   ·rw [if_neg c6] at H
    have c6b0 : decide (x5 < (l0.length : Int)) = false := decide_eq_false (by omega)
    clear c6 hlen
    injection H with H
    injection H with e1 e2
    subst e1 e2
    go_wp2
    go_ret
    exact ⟨rfl, HO.out, HB.out, HK.out⟩
def laws_markFamily.f (k : Nat) (a0_0 : Int) (l0_1 : List (List Int)) (a1 : Int) : Option (Int × List (List Int)) := laws_markInt64SS.f k l0_1 a1
set_option maxHeartbeats 8000000 in
set_option maxRecDepth 100000 in
theorem laws_markFamily.callsM (k : Nat) (a0_0 : Int) (P0_ : Nat → Prop) (u : Value) (l0_1 : List (List Int)) (a1 : Int) (r1 : Int) (r2 : List (List Int)) (w0 w : World) (hB : Below w0.heap.size w0 w) (ho0 : Kd.S (Kd.slice 2 (Kd.int .i64)) 65 w w0.heap.size P0_ u l0_1) (h : laws_markFamily.f k a0_0 l0_1 a1 = some (r1, r2)) :
  Calls Tryd.prog 34 #[.agg #[.int .i64 a0_0, u], .int .i64 a1] w fun e w' => e = .returned (.int .i64 r1) ∧ Kd.S (Kd.slice 2 (Kd.int .i64)) 65 w' w0.heap.size P0_ u r2 ∧ Below w0.heap.size w0 w' ∧ Kept w w' P0_ := by
 have hum := Tryd.underlying35
 obtain ⟨Ao, co, rfl⟩ := Kd.S_slice ho0
 have HO := Aside0.mk ho0
 have HB := Aside0.mk hB
 have A3 := Aside0.mk (show laws_markInt64SS.f k _ a1 = some (r1, r2) from h)
 clear ho0 hB h
 go_enter Tryd.func34, Tryd.ntmps34
 go_wp2_with (first | (go_at_call 65; (with_reducible refine (laws_markInt64SS.callsM k P0_ _ l0_1 a1 r1 r2 w0 _ ?side1 ?side2 A3.out).mono ?_); (case side1 => repeat (first | (with_reducible first | exact HB.out | apply below_alloc | apply pw_below_drewN | apply below_drew1) | exact HB.out)); (case side2 => (with_reducible repeat (first | apply Kd.S_alloc | apply Kd.S_drewN | apply Kd.S_drew)); exact HO.out); rintro e w' ⟨rfl, hr, hb, hk⟩))
 go_ret
 exact ⟨rfl, hr, hb, Kept.then_ (by repeat (first | exact Kept.refl _ _ | apply Kept.alloc | apply Kept.drewN | apply Kept.drew)) hk (fun _ h => .inl h)⟩
def laws_heldInt64S.l0 : Nat → List Int → Int → Int → Option (Int)
 | 0, _, _, _ => none
 | k + 1, x0, x1, x5 => if x5 < (x0.length : Int) then (if 0 ≤ x5 then (if (rd x0 x5) = x1 then (laws_heldInt64S.l0 k x0 (wrap64 (x1 + 1)) (wrap64 (x5 + 1))) else (some (-1))) else (none)) else (some x1)
def laws_heldInt64S.f (k : Nat) (l0 : List Int) (a1 : Int) : Option (Int) := laws_heldInt64S.l0 k l0 a1 0
set_option maxHeartbeats 8000000 in
set_option maxRecDepth 100000 in
theorem laws_heldInt64S.calls (k : Nat) (A0 : Option Addr) (c0 : Nat) (l0 : List Int) (a1 : Int) (r : Int) (w : World) (hr0 : Kd.C (Kd.int .i64) w A0 l0.length l0) (hc0 : l0.length ≤ c0) (h : laws_heldInt64S.f k l0 a1 = some r) :
  Calls Tryd.prog 101 #[.slice A0 l0.length c0, .int .i64 a1] w fun e w' => e = .returned (.int .i64 r) ∧ Drawn0 w w' := by
 have HR0 := Aside0.mk hr0
 have HC0 := Aside0.mk hc0
 clear hr0 hc0
 have H : (laws_heldInt64S.l0 k l0 a1 0) = some r := h
 clear h
 have H' := Aside0.mk H
 clear H
 go_enter Tryd.func101, Tryd.ntmps101
 go_wp2
 go_loopg [1, 5] k (fun kq v1 v5 w' => ∃ (x1_1 : Int) (x5_1 : Int), v1 = .int .i64 x1_1 ∧ v5 = .int .i64 x5_1 ∧ Aside0 (laws_heldInt64S.l0 kq l0 x1_1 x5_1 = some r) ∧ Aside0 (kq ≤ k) ∧ Drawn0 w w')
 case atStart => exact ⟨(a1), (0), (by first | rfl | (simp; done) | (simp [*]; done)), (by first | rfl | (simp; done) | (simp [*]; done)), H', ⟨Nat.le_refl _⟩, by repeat (first | exact Drawn0.refl _ | apply Drawn0.step)⟩
 case round =>
  clear H'
  try clear c1
  try clear p2
  obtain ⟨x1_1, x5_1, rfl, rfl, HA, HK1, ⟨m1, rfl⟩⟩ := hrel
  cases gk with
  | zero => exact absurd HA.out (by simp [laws_heldInt64S.l0])
  | succ k1 =>
   have H := HA.out
   clear HA
   simp only [laws_heldInt64S.l0] at H
   by_cases c3 : x5_1 < (l0.length : Int)
   ·rw [if_pos c3] at H
    have c3b0 : decide (x5_1 < (l0.length : Int)) = true := decide_eq_true c3
    clear c3
    by_cases c4 : 0 ≤ x5_1
    ·rw [if_pos c4] at H
     have c4b0 : decide (0 ≤ x5_1) = true := decide_eq_true c4
     clear c4
     by_cases c5 : (rd l0 x5_1) = x1_1
     ·rw [if_pos c5] at H
      have c5b0 : ((rd l0 x5_1) == x1_1) = true := beq_iff_eq.mpr c5
      have c5b1 : ((rd l0 x5_1) != x1_1) = false := bne_eq_false_iff_eq.mpr c5
      clear c5
      have H' := Aside0.mk H
      clear H
      have p476 : 0 ≤ (x5_1 : Int) := of_decide_eq_true (by first | (with_reducible assumption) | assumption)
      have q476 : x5_1 < (l0.length : Int) := of_decide_eq_true (by first | (with_reducible assumption) | assumption)
      obtain ⟨ad476, e476, hx476_0⟩ := Kd.at_int HR0.out x5_1 p476 q476
      cases e476
      replace p476 := eq_true p476
      replace q476 := eq_true q476
      go_wp2
      go_roundg k1
      case measure => have := HK1.out; omega
      case rel => exact ⟨(wrap64 (x1_1 + 1)), (wrap64 (x5_1 + 1)), (by first | rfl | (simp; done) | (simp [*]; done)), (by first | rfl | (simp; done) | (simp [*]; done)), H', ⟨by have := HK1.out; omega⟩, by repeat (first | exact Drawn0.refl _ | apply Drawn0.step)⟩
     ·rw [if_neg c5] at H
      have c5b0 : ((rd l0 x5_1) == x1_1) = false := beq_eq_false_iff_ne.mpr c5
      have c5b1 : ((rd l0 x5_1) != x1_1) = true := bne_iff_ne.mpr c5
      obtain rfl := Option.some.inj H
      have p476 : 0 ≤ (x5_1 : Int) := of_decide_eq_true (by first | (with_reducible assumption) | assumption)
      have q476 : x5_1 < (l0.length : Int) := of_decide_eq_true (by first | (with_reducible assumption) | assumption)
      obtain ⟨ad476, e476, hx476_0⟩ := Kd.at_int HR0.out x5_1 p476 q476
      cases e476
      replace p476 := eq_true p476
      replace q476 := eq_true q476
      go_wp2
      go_ret
      exact ⟨by first | rfl | (simp; done) | (simp [*]; done), by repeat (first | exact Drawn0.refl _ | apply Drawn0.step)⟩
    ·rw [if_neg c4] at H
     exact absurd H (by simp)
   ·rw [if_neg c3] at H
    have c3b0 : decide (x5_1 < (l0.length : Int)) = false := decide_eq_false c3
    clear c3
    obtain rfl := Option.some.inj H
    go_wp2
    go_ret
    exact ⟨by first | rfl | (simp; done) | (simp [*]; done), by repeat (first | exact Drawn0.refl _ | apply Drawn0.step)⟩
def laws_heldInt64SS.l0 : Nat → List (List Int) → Int → Int → Option (Int)
 | 0, _, _, _ => none
 | k + 1, x0, x1, x5 => if x5 < (x0.length : Int) then (if 0 ≤ x5 then ((laws_heldInt64S.f k (rd_L1 x0 x5) x1).bind fun t478 => (if t478 < 0 then (some (-1)) else (laws_heldInt64SS.l0 k x0 t478 (wrap64 (x5 + 1))))) else (none)) else (some x1)
def laws_heldInt64SS.f (k : Nat) (l0 : List (List Int)) (a1 : Int) : Option (Int) := laws_heldInt64SS.l0 k l0 a1 0
set_option maxHeartbeats 8000000 in
set_option maxRecDepth 100000 in
theorem laws_heldInt64SS.calls (k : Nat) (A0 : Option Addr) (c0 : Nat) (l0 : List (List Int)) (a1 : Int) (r : Int) (w : World) (hr0 : Kd.C (Kd.slice 2 (Kd.int .i64)) w A0 l0.length l0) (hc0 : l0.length ≤ c0) (h : laws_heldInt64SS.f k l0 a1 = some r) :
  Calls Tryd.prog 66 #[.slice A0 l0.length c0, .int .i64 a1] w fun e w' => e = .returned (.int .i64 r) ∧ Drawn0 w w' := by
 have HR0 := Aside0.mk hr0
 have HC0 := Aside0.mk hc0
 clear hr0 hc0
 have H : (laws_heldInt64SS.l0 k l0 a1 0) = some r := h
 clear h
 have H' := Aside0.mk H
 clear H
 go_enter Tryd.func66, Tryd.ntmps66
 go_wp2
 go_loopg [1, 5] k (fun kq v1 v5 w' => ∃ (x1_1 : Int) (x5_1 : Int), v1 = .int .i64 x1_1 ∧ v5 = .int .i64 x5_1 ∧ Aside0 (laws_heldInt64SS.l0 kq l0 x1_1 x5_1 = some r) ∧ Aside0 (kq ≤ k) ∧ Drawn0 w w')
 case atStart => exact ⟨(a1), (0), (by first | rfl | (simp; done) | (simp [*]; done)), (by first | rfl | (simp; done) | (simp [*]; done)), H', ⟨Nat.le_refl _⟩, by repeat (first | exact Drawn0.refl _ | apply Drawn0.step)⟩
 case round =>
  clear H'
  try clear p2
  obtain ⟨x1_1, x5_1, rfl, rfl, HA, HK1, ⟨m1, rfl⟩⟩ := hrel
  cases gk with
  | zero => exact absurd HA.out (by simp [laws_heldInt64SS.l0])
  | succ k1 =>
   have H := HA.out
   clear HA
   simp only [laws_heldInt64SS.l0] at H
   by_cases c3 : x5_1 < (l0.length : Int)
   ·rw [if_pos c3] at H
    have c3b0 : decide (x5_1 < (l0.length : Int)) = true := decide_eq_true c3
    clear c3
    by_cases c4 : 0 ≤ x5_1
    ·rw [if_pos c4] at H
     have c4b0 : decide (0 ≤ x5_1) = true := decide_eq_true c4
     clear c4
     replace H := Option.bind_eq_some_iff.mp H
     obtain ⟨t478, A50, H⟩ := H
     replace H : (if t478 < 0 then (some (-1)) else (laws_heldInt64SS.l0 k1 l0 t478 (wrap64 (x5_1 + 1)))) = some r := H
     have A5 := Aside0.mk A50
     clear A50
     by_cases c6 : t478 < 0
     ·rw [if_pos c6] at H
      have c6b0 : decide (t478 < 0) = true := decide_eq_true c6
      clear c6
      obtain rfl := Option.some.inj H
      have p477 : 0 ≤ (x5_1 : Int) := of_decide_eq_true (by first | (with_reducible assumption) | assumption)
      have q477 : x5_1 < (l0.length : Int) := of_decide_eq_true (by first | (with_reducible assumption) | assumption)
      obtain ⟨ad477, A477_0, c477_0, e477, hx477_0, hl477_0, hi477_0⟩ := at_L1 HR0.out x5_1 p477 q477
      cases e477
      have HR477_0 := Aside0.mk hi477_0
      have HC477_0 := Aside0.mk hl477_0
      clear hi477_0 hl477_0
      replace p477 := eq_true p477
      replace q477 := eq_true q477
      go_wp2_with (first | ((with_reducible refine gate_callee (f := 101) rfl ?_); refine goesL_ (some 17) rfl rfl Tryd.func101 (by kernel_rfl) rfl #[.slice A477_0 (rd_L1 l0 x5_1).length c477_0, .int .i64 x1_1] rfl (by (try simp only [List.map_toArray, List.map_cons, List.map_nil]); first | done | rfl | (simp only [List.length_drop, List.length_take]; rfl)) ?_; (with_reducible refine (laws_heldInt64S.calls k1 _ _ (rd_L1 l0 x5_1) x1_1 t478 _ ?side1 ?side2 A5.out).mono ?_); (case side1 => repeat (first | exact HR477_0.out | (with_reducible refine Kd.C_alloc ?_ _) | (with_reducible refine Kd.C_drewN ?_ _) | (with_reducible refine Kd.C_drew ?_))); (case side2 => exact HC477_0.out); rintro e w' ⟨rfl, ⟨nd, rfl⟩⟩; refine ⟨_, rfl, ?_⟩))
      go_ret
      exact ⟨by first | rfl | (simp; done) | (simp [*]; done), by repeat (first | exact Drawn0.refl _ | apply Drawn0.step)⟩
     ·rw [if_neg c6] at H
      have c6b0 : decide (t478 < 0) = false := decide_eq_false c6
      clear c6
      have H' := Aside0.mk H
      clear H
      have p477 : 0 ≤ (x5_1 : Int) := of_decide_eq_true (by first | (with_reducible assumption) | assumption)
      have q477 : x5_1 < (l0.length : Int) := of_decide_eq_true (by first | (with_reducible assumption) | assumption)
      obtain ⟨ad477, A477_0, c477_0, e477, hx477_0, hl477_0, hi477_0⟩ := at_L1 HR0.out x5_1 p477 q477
      cases e477
      have HR477_0 := Aside0.mk hi477_0
      have HC477_0 := Aside0.mk hl477_0
      clear hi477_0 hl477_0
      replace p477 := eq_true p477
      replace q477 := eq_true q477
      go_wp2_with (first | ((with_reducible refine gate_callee (f := 101) rfl ?_); refine goesL_ (some 17) rfl rfl Tryd.func101 (by kernel_rfl) rfl #[.slice A477_0 (rd_L1 l0 x5_1).length c477_0, .int .i64 x1_1] rfl (by (try simp only [List.map_toArray, List.map_cons, List.map_nil]); first | done | rfl | (simp only [List.length_drop, List.length_take]; rfl)) ?_; (with_reducible refine (laws_heldInt64S.calls k1 _ _ (rd_L1 l0 x5_1) x1_1 t478 _ ?side1 ?side2 A5.out).mono ?_); (case side1 => repeat (first | exact HR477_0.out | (with_reducible refine Kd.C_alloc ?_ _) | (with_reducible refine Kd.C_drewN ?_ _) | (with_reducible refine Kd.C_drew ?_))); (case side2 => exact HC477_0.out); rintro e w' ⟨rfl, ⟨nd, rfl⟩⟩; refine ⟨_, rfl, ?_⟩))
      go_roundg k1
      case measure => have := HK1.out; omega
      case rel => exact ⟨(t478), (wrap64 (x5_1 + 1)), (by first | rfl | (simp; done) | (simp [*]; done)), (by first | rfl | (simp; done) | (simp [*]; done)), H', ⟨by have := HK1.out; omega⟩, by repeat (first | exact Drawn0.refl _ | apply Drawn0.step)⟩
    ·rw [if_neg c4] at H
     exact absurd H (by simp)
   ·rw [if_neg c3] at H
    have c3b0 : decide (x5_1 < (l0.length : Int)) = false := decide_eq_false c3
    clear c3
    obtain rfl := Option.some.inj H
    go_wp2
    go_ret
    exact ⟨by first | rfl | (simp; done) | (simp [*]; done), by repeat (first | exact Drawn0.refl _ | apply Drawn0.step)⟩
def laws_heldFamily.f (k : Nat) (a0_0 : Int) (l0_1 : List (List Int)) (a1 : Int) : Option (Int) := (laws_heldInt64SS.f k l0_1 a1).bind fun t525 => (if t525 < 0 then (some (-1)) else (some t525))
set_option maxHeartbeats 8000000 in
set_option maxRecDepth 100000 in
theorem laws_heldFamily.calls (k : Nat) (a0_0 : Int) (A0_1 : Option Addr) (c0_1 : Nat) (l0_1 : List (List Int)) (a1 : Int) (r : Int) (w : World) (hr0_1 : Kd.C (Kd.slice 2 (Kd.int .i64)) w A0_1 l0_1.length l0_1) (hc0_1 : l0_1.length ≤ c0_1) (h : laws_heldFamily.f k a0_0 l0_1 a1 = some r) :
  Calls Tryd.prog 35 #[.agg #[.int .i64 a0_0, .slice A0_1 l0_1.length c0_1], .int .i64 a1] w fun e w' => e = .returned (.int .i64 r) ∧ Below w.heap.size w w' := by
 have hu35 := Tryd.underlying35
 have HR0_1 := Aside0.mk hr0_1
 have HC0_1 := Aside0.mk hc0_1
 clear hr0_1 hc0_1
 have HB := Aside0.mk (Below.refl w.heap.size w)
 have H : ((laws_heldInt64SS.f k l0_1 a1).bind fun t525 => (if t525 < 0 then (some (-1)) else (some t525))) = some r := h
 clear h
 replace H := Option.bind_eq_some_iff.mp H
 obtain ⟨t525, A30, H⟩ := H
 replace H : (if t525 < 0 then (some (-1)) else (some t525)) = some r := H
 have A3 := Aside0.mk A30
 clear A30
 by_cases c4 : t525 < 0
 ·rw [if_pos c4] at H
  have c4b0 : decide (t525 < 0) = true := decide_eq_true c4
  clear c4
  obtain rfl := Option.some.inj H
  go_enter Tryd.func35, Tryd.ntmps35
  go_wp2_with (first | ((with_reducible refine gate_dst (N := 2) rfl ?_); refine box_event ?hg (N := 2) ?hd (cs := #[.int .i64 a0_0, .slice A0_1 l0_1.length c0_1]) (t := 35) ?hr ?_; (case hd => rfl); (case hg => rfl); (case hr => first | (go_simp; done) | (go_simp; rfl)); intro gb524 hg w5 hbox hb; have n0_ := Aside0.mk (below_step (by repeat (first | (with_reducible first | exact HB.out | apply below_alloc | apply pw_below_drewN | apply below_drew1) | exact HB.out)) hb); have n1_ := Aside0.mk (hbox); have n2_ := Aside0.mk ((by rw [hg]; exact (below_size (by repeat (first | (with_reducible first | exact HB.out | apply below_alloc | apply pw_below_drewN | apply below_drew1) | exact HB.out))) : w.heap.size ≤ gb524)); have n3_ := Aside0.mk ((by rw [hg]; exact (below_size (by repeat (first | (with_reducible first | exact HB.out | apply below_alloc | apply pw_below_drewN | apply below_drew1) | exact HB.out))) : w.heap.size ≤ gb524)); clear HB; have HB := n0_; have BK524 := n1_; have GW524 := n2_; have GE524 := n3_; clear n0_ n1_ n2_ n3_; clear hb hbox hg; have hcz6_0 : w5.cell? ⟨gb524, 0, none⟩ = some (.int .i64 a0_0) := (blk_cell BK524.out 0).trans rfl; have hcz6_1 : w5.cell? ⟨gb524, 1, none⟩ = some (.slice A0_1 l0_1.length c0_1) := (blk_cell BK524.out 1).trans rfl; have hfz6_0 := blk_frozen BK524.out 0; have hfz6_1 := blk_frozen BK524.out 1) | ((with_reducible refine gate_callee (f := 66) rfl ?_); refine goesL_ (some 8) rfl rfl Tryd.func66 (by kernel_rfl) rfl #[.slice A0_1 l0_1.length c0_1, .int .i64 a1] rfl (by (try simp only [List.map_toArray, List.map_cons, List.map_nil]); first | done | rfl | (simp only [List.length_drop, List.length_take]; rfl)) ?_; (with_reducible refine (laws_heldInt64SS.calls k _ _ l0_1 a1 t525 _ ?side1 ?side2 A3.out).mono ?_); (case side1 => repeat (first | exact (Kd.C_below HR0_1.out HB.out) | (with_reducible refine Kd.C_alloc ?_ _) | (with_reducible refine Kd.C_drewN ?_ _) | (with_reducible refine Kd.C_drew ?_))); (case side2 => exact HC0_1.out); rintro e w' ⟨rfl, ⟨nd, rfl⟩⟩; refine ⟨_, rfl, ?_⟩))
  go_ret
  exact ⟨by first | rfl | (simp [errW_none, errW_some] <;> rfl) | (simp [*, errW_none, errW_some] <;> rfl), by repeat (first | (with_reducible first | exact HB.out | apply below_alloc | apply pw_below_drewN | apply below_drew1 | refine below_set ?_ GE524.out) | exact HB.out)⟩
 ·rw [if_neg c4] at H
  have c4b0 : decide (t525 < 0) = false := decide_eq_false c4
  clear c4
  obtain rfl := Option.some.inj H
  go_enter Tryd.func35, Tryd.ntmps35
  go_wp2_with (first | ((with_reducible refine gate_dst (N := 2) rfl ?_); refine box_event ?hg (N := 2) ?hd (cs := #[.int .i64 a0_0, .slice A0_1 l0_1.length c0_1]) (t := 35) ?hr ?_; (case hd => rfl); (case hg => rfl); (case hr => first | (go_simp; done) | (go_simp; rfl)); intro gb524 hg w7 hbox hb; have n0_ := Aside0.mk (below_step (by repeat (first | (with_reducible first | exact HB.out | apply below_alloc | apply pw_below_drewN | apply below_drew1) | exact HB.out)) hb); have n1_ := Aside0.mk (hbox); have n2_ := Aside0.mk ((by rw [hg]; exact (below_size (by repeat (first | (with_reducible first | exact HB.out | apply below_alloc | apply pw_below_drewN | apply below_drew1) | exact HB.out))) : w.heap.size ≤ gb524)); have n3_ := Aside0.mk ((by rw [hg]; exact (below_size (by repeat (first | (with_reducible first | exact HB.out | apply below_alloc | apply pw_below_drewN | apply below_drew1) | exact HB.out))) : w.heap.size ≤ gb524)); clear HB; have HB := n0_; have BK524 := n1_; have GW524 := n2_; have GE524 := n3_; clear n0_ n1_ n2_ n3_; clear hb hbox hg; have hcz8_0 : w7.cell? ⟨gb524, 0, none⟩ = some (.int .i64 a0_0) := (blk_cell BK524.out 0).trans rfl; have hcz8_1 : w7.cell? ⟨gb524, 1, none⟩ = some (.slice A0_1 l0_1.length c0_1) := (blk_cell BK524.out 1).trans rfl; have hfz8_0 := blk_frozen BK524.out 0; have hfz8_1 := blk_frozen BK524.out 1) | ((with_reducible refine gate_callee (f := 66) rfl ?_); refine goesL_ (some 8) rfl rfl Tryd.func66 (by kernel_rfl) rfl #[.slice A0_1 l0_1.length c0_1, .int .i64 a1] rfl (by (try simp only [List.map_toArray, List.map_cons, List.map_nil]); first | done | rfl | (simp only [List.length_drop, List.length_take]; rfl)) ?_; (with_reducible refine (laws_heldInt64SS.calls k _ _ l0_1 a1 t525 _ ?side1 ?side2 A3.out).mono ?_); (case side1 => repeat (first | exact (Kd.C_below HR0_1.out HB.out) | (with_reducible refine Kd.C_alloc ?_ _) | (with_reducible refine Kd.C_drewN ?_ _) | (with_reducible refine Kd.C_drew ?_))); (case side2 => exact HC0_1.out); rintro e w' ⟨rfl, ⟨nd, rfl⟩⟩; refine ⟨_, rfl, ?_⟩))
  go_ret
  exact ⟨by first | rfl | (simp [errW_none, errW_some] <;> rfl) | (simp [*, errW_none, errW_some] <;> rfl), by repeat (first | (with_reducible first | exact HB.out | apply below_alloc | apply pw_below_drewN | apply below_drew1 | refine below_set ?_ GE524.out) | exact HB.out)⟩
theorem blk_new_at {W : World} {o : Obj} {g : Nat} (h : g = W.heap.size) : (W.alloc o).heap[g]? = some o := by rw [h]; exact blk_new W o
theorem calls_as {P : Program} {f : Nat} {us vs : Array Value} {w : World} {Q : Ending → World → Prop} (e : us = vs) (h : Calls P f us w Q) : Calls P f vs w Q := e ▸ h
set_option maxHeartbeats 8000000 in
set_option maxRecDepth 100000 in
theorem laws_FnExactReadFamily.way0 (k : Nat) (a0 : ByteArray)  (w : World) (hG : Glob w)  (t1 : decide (1048576 < (a0.size : Int)) = true) (t2 : decide (1048576 < a0.size) = true) :
  Calls Tryd.prog 8 #[.string a0] w fun e w' => e = .returned (.bool true) ∧ Below w.heap.size w w' := by
 have HB := Aside0.mk (Below.refl w.heap.size w)
 have HG := Aside0.mk hG
 clear hG
 go_enter Tryd.func8, Tryd.ntmps8
 go_wp2
 go_ret
 exact ⟨rfl, by repeat (first | (with_reducible first | exact HB.out | apply below_alloc | apply pw_below_drewN | apply below_drew1) | exact HB.out)⟩
set_option maxHeartbeats 8000000 in
set_option maxRecDepth 100000 in
theorem laws_FnExactReadFamily.way1 (k : Nat) (a0 : ByteArray) (r3 : Int) (r4 : List (List Int)) (r5 : Int) (m27 : Int) (ys28 : List (List Int)) (w : World) (hG : Glob w)  (t1 : decide (1048576 < (a0.size : Int)) = false) (t2 : decide (1048576 < a0.size) = false) (A6 : spec_ReadFamily.f k a0 = some (r3, r4, r5)) (A11 : impl_ReadFamily.f k a0 = some (r3, r4, r5)) (A19 : laws_eqFamily.f k r3 r4 r3 r4 = some true) (A29 : laws_markFamily.f k r3 r4 1 = some (m27, ys28)) (A37 : laws_heldFamily.f k r3 ys28 1 = some m27) (t45 : decide (m27 < 0) = false) (A46 : impl_ReadFamily.f k a0 = some (r3, r4, r5)) (A57 : laws_eqFamily.f k r3 r4 r3 r4 = some true) (A68 : laws_heldFamily.f k r3 ys28 1 = some m27) (t79 : decide (m27 < 0) = false) :
  Calls Tryd.prog 8 #[.string a0] w fun e w' => e = .returned (.bool true) ∧ Below w.heap.size w w' := by
 have hu35 := Tryd.underlying35
 have HB := Aside0.mk (Below.refl w.heap.size w)
 have HG := Aside0.mk hG
 clear hG
 replace A6 := Aside0.mk A6
 replace A11 := Aside0.mk A11
 replace A19 := Aside0.mk A19
 replace A29 := Aside0.mk A29
 replace A37 := Aside0.mk A37
 replace A46 := Aside0.mk A46
 replace A57 := Aside0.mk A57
 replace A68 := Aside0.mk A68
 go_enter Tryd.func8, Tryd.ntmps8
 go_wp2_with (first | ((with_reducible refine gate_callee (f := 32) rfl ?_); refine goesL_ (some 16) rfl rfl Tryd.func32 (by kernel_rfl) rfl #[.string a0] rfl (by (try simp only [List.map_toArray, List.map_cons, List.map_nil]); first | done | rfl | (simp only [List.length_drop, List.length_take]; rfl)) ?_; (with_reducible refine (spec_ReadFamily.calls k a0 r3 r4 r5 _  A6.out).mono ?_); rintro e w1 ⟨v100_, rfl, ho0_, hb⟩; refine ⟨_, rfl, ?_⟩; have n1_ := Aside0.mk (below_step (by repeat (first | (with_reducible first | exact HB.out | apply below_alloc | apply pw_below_drewN | apply below_drew1) | exact HB.out)) hb); have C7 : Aside0 (w.heap.size ≤ w1.heap.size) := ⟨by have h_ := hb.size; (try simp at h_); omega⟩; have CC := Aside0.mk C7.out; clear HB; have HB := n1_; clear n1_; have HO8 := Aside0.mk (Kd.S_lower (base' := w.heap.size) (Kd.S_mono (Kd.S_bound ho0_) (ok' := fun k_ => w.heap.size ≤ k_ ∧ k_ < w1.heap.size) (fun k_ hk_ => ⟨by have h_ := hk_.2.1; (try simp at h_); omega, hk_.2.2.1⟩)) (by have := CC.out; first | omega | (simp; done) | (simp; omega))); obtain ⟨Az9, cz9, ez9⟩ := Kd.S_slice HO8.out; subst ez9; (try clear hb); (try clear ho0_)) | ((with_reducible refine gate_callee (f := 33) rfl ?_); refine goesL_ (some 21) rfl rfl Tryd.func33 (by kernel_rfl) rfl #[.string a0] rfl (by (try simp only [List.map_toArray, List.map_cons, List.map_nil]); first | done | rfl | (simp only [List.length_drop, List.length_take]; rfl)) ?_; (with_reducible refine (impl_ReadFamily.calls k a0 r3 r4 r5 _ ?side1 A11.out).mono ?_); (case side1 => exact Glob.below HG.out (by repeat (first | (with_reducible first | exact HB.out | apply below_alloc | apply pw_below_drewN | apply below_drew1) | exact HB.out))); rintro e w2 ⟨v100_, rfl, ho0_, hb⟩; refine ⟨_, rfl, ?_⟩; have n1_ := Aside0.mk (Kd.S_below (by (with_reducible repeat (first | apply Kd.S_alloc | apply Kd.S_drewN | apply Kd.S_drew)); exact HO8.out) hb); have n2_ := Aside0.mk (blk_below (g := w1.heap.size) (o := .cells #[.int .i64 r3, .slice Az9 r4.length cz9] 35 (0, 0)) (by repeat (first | exact blk_new_at (by simp) | (with_reducible refine blk_drewN ?_ _) | (with_reducible refine blk_drew ?_) | (with_reducible refine blk_alloc ?_ _))) hb); have n3_ := Aside0.mk (below_step (by repeat (first | (with_reducible first | exact HB.out | apply below_alloc | apply pw_below_drewN | apply below_drew1) | exact HB.out)) hb); have C12 : Aside0 (w1.heap.size + 1 ≤ w2.heap.size) := ⟨by have h_ := hb.size; (try simp at h_); omega⟩; have CCn_ := Aside0.mk (And.intro CC.out C12.out); clear CC; have CC := CCn_; clear CCn_; clear HO8; clear HB; have HO8 := n1_; clear n1_; have HX10 := n2_; clear n2_; have HB := n3_; clear n3_; have HO13 := Aside0.mk (Kd.S_lower (base' := w.heap.size) (Kd.S_mono (Kd.S_bound ho0_) (ok' := fun k_ => w1.heap.size + 1 ≤ k_ ∧ k_ < w2.heap.size) (fun k_ hk_ => ⟨by have h_ := hk_.2.1; (try simp at h_); omega, hk_.2.2.1⟩)) (by have := CC.out; first | omega | (simp; done) | (simp; omega))); obtain ⟨Az14, cz14, ez14⟩ := Kd.S_slice HO13.out; subst ez14; (try clear hb); (try clear ho0_); have hl15 : w1.heap.size < w2.heap.size := blk_lt HX10.out; have hx16 : w2.cell? ⟨w1.heap.size, 0, none⟩ = some (.int .i64 r3) := (blk_cell HX10.out 0).trans rfl; have hx17 : w2.cell? ⟨w1.heap.size, 1, none⟩ = some (.slice Az9 r4.length cz9) := (blk_cell HX10.out 1).trans rfl) | ((with_reducible refine gate_callee (f := 18) rfl ?_); refine goesL_ (some 26) rfl rfl Tryd.func18 (by kernel_rfl) rfl #[.agg #[.int .i64 r3, .slice Az14 r4.length cz14], .agg #[.int .i64 r3, .slice Az9 r4.length cz9]] rfl (by (try simp only [List.map_toArray, List.map_cons, List.map_nil]); first | done | rfl | (simp only [List.length_drop, List.length_take]; rfl)) ?_; (with_reducible refine (laws_eqFamily.calls k r3 _ _ r4 r3 _ _ r4 true _ ?side1 ?side2 ?side3 ?side4 A19.out).mono ?_); (case side1 => exact (Kd.S_reads' (n := r4.length) (A := Az14) (c := cz14) (by (with_reducible repeat (first | apply Kd.S_alloc | apply Kd.S_drewN | apply Kd.S_drew)); exact HO13.out)).2.2); (case side2 => exact (Kd.S_reads' (n := r4.length) (A := Az14) (c := cz14) HO13.out).2.1); (case side3 => exact (Kd.S_reads' (n := r4.length) (A := Az9) (c := cz9) (by (with_reducible repeat (first | apply Kd.S_alloc | apply Kd.S_drewN | apply Kd.S_drew)); exact HO8.out)).2.2); (case side4 => exact (Kd.S_reads' (n := r4.length) (A := Az9) (c := cz9) HO8.out).2.1); rintro e w3 ⟨rfl, hb⟩; refine ⟨_, rfl, ?_⟩; have n1_ := Aside0.mk (Kd.S_below (by (with_reducible repeat (first | apply Kd.S_alloc | apply Kd.S_drewN | apply Kd.S_drew)); exact HO8.out) hb); have n2_ := Aside0.mk (Kd.S_below (by (with_reducible repeat (first | apply Kd.S_alloc | apply Kd.S_drewN | apply Kd.S_drew)); exact HO13.out) hb); have n3_ := Aside0.mk (blk_below (g := w1.heap.size) (o := .cells #[.int .i64 r3, .slice Az9 r4.length cz9] 35 (0, 0)) (by (with_reducible repeat (first | refine blk_drewN ?_ _ | refine blk_drew ?_ | refine blk_alloc ?_ _)); exact HX10.out) hb); have n4_ := Aside0.mk (blk_below (g := w2.heap.size) (o := .cells #[.int .i64 r3, .slice Az14 r4.length cz14] 35 (0, 0)) (by repeat (first | exact blk_new_at (by simp) | (with_reducible refine blk_drewN ?_ _) | (with_reducible refine blk_drew ?_) | (with_reducible refine blk_alloc ?_ _))) hb); have n5_ := Aside0.mk (below_step (by repeat (first | (with_reducible first | exact HB.out | apply below_alloc | apply pw_below_drewN | apply below_drew1) | exact HB.out)) hb); have C20 : Aside0 (w2.heap.size + 1 ≤ w3.heap.size) := ⟨by have h_ := hb.size; (try simp at h_); omega⟩; have CCn_ := Aside0.mk (And.intro CC.out C20.out); clear CC; have CC := CCn_; clear CCn_; clear HO8; clear HO13; clear HX10; clear HB; clear hl15; clear hx16; clear hx17; have HO8 := n1_; clear n1_; have HO13 := n2_; clear n2_; have HX10 := n3_; clear n3_; have HX18 := n4_; clear n4_; have HB := n5_; clear n5_; (try clear hb); have hl21 : w1.heap.size < w3.heap.size := blk_lt HX10.out; have hx22 : w3.cell? ⟨w1.heap.size, 0, none⟩ = some (.int .i64 r3) := (blk_cell HX10.out 0).trans rfl; have hx23 : w3.cell? ⟨w1.heap.size, 1, none⟩ = some (.slice Az9 r4.length cz9) := (blk_cell HX10.out 1).trans rfl; have hl24 : w2.heap.size < w3.heap.size := blk_lt HX18.out; have hx25 : w3.cell? ⟨w2.heap.size, 0, none⟩ = some (.int .i64 r3) := (blk_cell HX18.out 0).trans rfl; have hx26 : w3.cell? ⟨w2.heap.size, 1, none⟩ = some (.slice Az14 r4.length cz14) := (blk_cell HX18.out 1).trans rfl) | ((with_reducible refine gate_callee (f := 34) rfl ?_); refine goesL_ (some 35) rfl rfl Tryd.func34 (by kernel_rfl) rfl #[.agg #[.int .i64 r3, .slice Az14 r4.length cz14], .int .i64 1] rfl (by (try simp only [List.map_toArray, List.map_cons, List.map_nil]); first | done | rfl | (simp only [List.length_drop, List.length_take]; rfl)) ?_; (with_reducible refine (laws_markFamily.callsM k r3 (fun k_ => w1.heap.size + 1 ≤ k_ ∧ k_ < w2.heap.size) (.slice Az14 r4.length cz14) r4 1 m27 ys28 w _ ?side1 ?side2 A29.out).mono ?_); (case side1 => repeat (first | (with_reducible first | exact HB.out | apply below_alloc | apply pw_below_drewN | apply below_drew1) | exact HB.out)); (case side2 => exact (by (with_reducible repeat (first | apply Kd.S_alloc | apply Kd.S_drewN | apply Kd.S_drew)); exact HO13.out)); rintro e w4 ⟨rfl, hm0_, hbk, hk⟩; refine ⟨_, rfl, ?_⟩; have n1_ := Aside0.mk (Kd.S_kept (by (with_reducible repeat (first | apply Kd.S_alloc | apply Kd.S_drewN | apply Kd.S_drew)); exact HO8.out) hk (fun k_ hk_ hs_ => by have := CC.out; have h1_ := hk_; have h2_ := hs_; omega)); have n2_ := Aside0.mk (blk_kept (g := w1.heap.size) (o := .cells #[.int .i64 r3, .slice Az9 r4.length cz9] 35 (0, 0)) (by (with_reducible repeat (first | refine blk_drewN ?_ _ | refine blk_drew ?_ | refine blk_alloc ?_ _)); exact HX10.out) hk (fun hs_ => by have := CC.out; have h2_ := hs_; omega)); have n3_ := Aside0.mk (blk_kept (g := w2.heap.size) (o := .cells #[.int .i64 r3, .slice Az14 r4.length cz14] 35 (0, 0)) (by (with_reducible repeat (first | refine blk_drewN ?_ _ | refine blk_drew ?_ | refine blk_alloc ?_ _)); exact HX18.out) hk (fun hs_ => by have := CC.out; have h2_ := hs_; omega)); have n4_ := Aside0.mk (hbk); have C30 : Aside0 (w3.heap.size ≤ w4.heap.size) := ⟨by have h_ := hk.1; (try simp at h_); omega⟩; have CCn_ := Aside0.mk (And.intro CC.out C30.out); clear CC; have CC := CCn_; clear CCn_; clear HO8; clear HX10; clear HX18; clear HB; clear hl21; clear hx22; clear hx23; clear hl24; clear hx25; clear hx26; have HO8 := n1_; clear n1_; have HX10 := n2_; clear n2_; have HX18 := n3_; clear n3_; have HB := n4_; clear n4_; clear HO13; have HO13 := Aside0.mk hm0_; (try clear hk); (try clear hbk); (try clear hm0_); have hl31 : w1.heap.size < w4.heap.size := blk_lt HX10.out; have hx32 : w4.cell? ⟨w1.heap.size, 0, none⟩ = some (.int .i64 r3) := (blk_cell HX10.out 0).trans rfl; have hx33 : w4.cell? ⟨w1.heap.size, 1, none⟩ = some (.slice Az9 r4.length cz9) := (blk_cell HX10.out 1).trans rfl; have hl34 : w2.heap.size < w4.heap.size := blk_lt HX18.out; have hx35 : w4.cell? ⟨w2.heap.size, 0, none⟩ = some (.int .i64 r3) := (blk_cell HX18.out 0).trans rfl; have hx36 : w4.cell? ⟨w2.heap.size, 1, none⟩ = some (.slice Az14 r4.length cz14) := (blk_cell HX18.out 1).trans rfl) | ((with_reducible refine gate_callee (f := 35) rfl ?_); refine goesL_ (some 38) rfl rfl Tryd.func35 (by kernel_rfl) rfl #[.agg #[.int .i64 r3, .slice Az14 r4.length cz14], .int .i64 1] rfl (by (try simp only [List.map_toArray, List.map_cons, List.map_nil]); first | done | rfl | (simp only [List.length_drop, List.length_take]; rfl)) ?_; (with_reducible refine (calls_as ?eq_ (laws_heldFamily.calls k r3 Az14 cz14 ys28 1 m27 _ ?side1 ?side2 A37.out)).mono ?_); (case eq_ => rw [show ys28.length = r4.length from (Kd.S_reads' HO13.out).1.symm]); (case side1 => exact (Kd.S_reads' (n := r4.length) (A := Az14) (c := cz14) (by (with_reducible repeat (first | apply Kd.S_alloc | apply Kd.S_drewN | apply Kd.S_drew)); exact HO13.out)).2.2); (case side2 => exact Nat.le_trans (Nat.le_of_eq (Kd.S_reads' HO13.out).1.symm) (Kd.S_reads' HO13.out).2.1); rintro e w5 ⟨rfl, hb⟩; refine ⟨_, rfl, ?_⟩; have n1_ := Aside0.mk (Kd.S_below (by (with_reducible repeat (first | apply Kd.S_alloc | apply Kd.S_drewN | apply Kd.S_drew)); exact HO8.out) hb); have n2_ := Aside0.mk (Kd.S_below (by (with_reducible repeat (first | apply Kd.S_alloc | apply Kd.S_drewN | apply Kd.S_drew)); exact HO13.out) hb); have n3_ := Aside0.mk (blk_below (g := w1.heap.size) (o := .cells #[.int .i64 r3, .slice Az9 r4.length cz9] 35 (0, 0)) (by (with_reducible repeat (first | refine blk_drewN ?_ _ | refine blk_drew ?_ | refine blk_alloc ?_ _)); exact HX10.out) hb); have n4_ := Aside0.mk (blk_below (g := w2.heap.size) (o := .cells #[.int .i64 r3, .slice Az14 r4.length cz14] 35 (0, 0)) (by (with_reducible repeat (first | refine blk_drewN ?_ _ | refine blk_drew ?_ | refine blk_alloc ?_ _)); exact HX18.out) hb); have n5_ := Aside0.mk (below_step (by repeat (first | (with_reducible first | exact HB.out | apply below_alloc | apply pw_below_drewN | apply below_drew1) | exact HB.out)) hb); have C38 : Aside0 (w4.heap.size ≤ w5.heap.size) := ⟨by have h_ := hb.size; (try simp at h_); omega⟩; have CCn_ := Aside0.mk (And.intro CC.out C38.out); clear CC; have CC := CCn_; clear CCn_; clear HO8; clear HO13; clear HX10; clear HX18; clear HB; clear hl31; clear hx32; clear hx33; clear hl34; clear hx35; clear hx36; have HO8 := n1_; clear n1_; have HO13 := n2_; clear n2_; have HX10 := n3_; clear n3_; have HX18 := n4_; clear n4_; have HB := n5_; clear n5_; (try clear hb); have hl39 : w1.heap.size < w5.heap.size := blk_lt HX10.out; have hx40 : w5.cell? ⟨w1.heap.size, 0, none⟩ = some (.int .i64 r3) := (blk_cell HX10.out 0).trans rfl; have hx41 : w5.cell? ⟨w1.heap.size, 1, none⟩ = some (.slice Az9 r4.length cz9) := (blk_cell HX10.out 1).trans rfl; have hl42 : w2.heap.size < w5.heap.size := blk_lt HX18.out; have hx43 : w5.cell? ⟨w2.heap.size, 0, none⟩ = some (.int .i64 r3) := (blk_cell HX18.out 0).trans rfl; have hx44 : w5.cell? ⟨w2.heap.size, 1, none⟩ = some (.slice Az14 r4.length cz14) := (blk_cell HX18.out 1).trans rfl) | ((with_reducible refine gate_callee (f := 33) rfl ?_); refine goesL_ (some 46) rfl rfl Tryd.func33 (by kernel_rfl) rfl #[.string a0] rfl (by (try simp only [List.map_toArray, List.map_cons, List.map_nil]); first | done | rfl | (simp only [List.length_drop, List.length_take]; rfl)) ?_; (with_reducible refine (impl_ReadFamily.calls k a0 r3 r4 r5 _ ?side1 A46.out).mono ?_); (case side1 => exact Glob.below HG.out (by repeat (first | (with_reducible first | exact HB.out | apply below_alloc | apply pw_below_drewN | apply below_drew1) | exact HB.out))); rintro e w6 ⟨v100_, rfl, ho0_, hb⟩; refine ⟨_, rfl, ?_⟩; have n1_ := Aside0.mk (Kd.S_below (by (with_reducible repeat (first | apply Kd.S_alloc | apply Kd.S_drewN | apply Kd.S_drew)); exact HO8.out) hb); have n2_ := Aside0.mk (Kd.S_below (by (with_reducible repeat (first | apply Kd.S_alloc | apply Kd.S_drewN | apply Kd.S_drew)); exact HO13.out) hb); have n3_ := Aside0.mk (blk_below (g := w1.heap.size) (o := .cells #[.int .i64 r3, .slice Az9 r4.length cz9] 35 (0, 0)) (by (with_reducible repeat (first | refine blk_drewN ?_ _ | refine blk_drew ?_ | refine blk_alloc ?_ _)); exact HX10.out) hb); have n4_ := Aside0.mk (blk_below (g := w2.heap.size) (o := .cells #[.int .i64 r3, .slice Az14 r4.length cz14] 35 (0, 0)) (by (with_reducible repeat (first | refine blk_drewN ?_ _ | refine blk_drew ?_ | refine blk_alloc ?_ _)); exact HX18.out) hb); have n5_ := Aside0.mk (below_step (by repeat (first | (with_reducible first | exact HB.out | apply below_alloc | apply pw_below_drewN | apply below_drew1) | exact HB.out)) hb); have C47 : Aside0 (w5.heap.size ≤ w6.heap.size) := ⟨by have h_ := hb.size; (try simp at h_); omega⟩; have CCn_ := Aside0.mk (And.intro CC.out C47.out); clear CC; have CC := CCn_; clear CCn_; clear HO8; clear HO13; clear HX10; clear HX18; clear HB; clear hl39; clear hx40; clear hx41; clear hl42; clear hx43; clear hx44; have HO8 := n1_; clear n1_; have HO13 := n2_; clear n2_; have HX10 := n3_; clear n3_; have HX18 := n4_; clear n4_; have HB := n5_; clear n5_; have HO48 := Aside0.mk (Kd.S_lower (base' := w.heap.size) (Kd.S_mono (Kd.S_bound ho0_) (ok' := fun k_ => w5.heap.size ≤ k_ ∧ k_ < w6.heap.size) (fun k_ hk_ => ⟨by have h_ := hk_.2.1; (try simp at h_); omega, hk_.2.2.1⟩)) (by have := CC.out; first | omega | (simp; done) | (simp; omega))); obtain ⟨Az49, cz49, ez49⟩ := Kd.S_slice HO48.out; subst ez49; (try clear hb); (try clear ho0_); have hl50 : w1.heap.size < w6.heap.size := blk_lt HX10.out; have hx51 : w6.cell? ⟨w1.heap.size, 0, none⟩ = some (.int .i64 r3) := (blk_cell HX10.out 0).trans rfl; have hx52 : w6.cell? ⟨w1.heap.size, 1, none⟩ = some (.slice Az9 r4.length cz9) := (blk_cell HX10.out 1).trans rfl; have hl53 : w2.heap.size < w6.heap.size := blk_lt HX18.out; have hx54 : w6.cell? ⟨w2.heap.size, 0, none⟩ = some (.int .i64 r3) := (blk_cell HX18.out 0).trans rfl; have hx55 : w6.cell? ⟨w2.heap.size, 1, none⟩ = some (.slice Az14 r4.length cz14) := (blk_cell HX18.out 1).trans rfl) | ((with_reducible refine gate_callee (f := 18) rfl ?_); refine goesL_ (some 51) rfl rfl Tryd.func18 (by kernel_rfl) rfl #[.agg #[.int .i64 r3, .slice Az49 r4.length cz49], .agg #[.int .i64 r3, .slice Az9 r4.length cz9]] rfl (by (try simp only [List.map_toArray, List.map_cons, List.map_nil]); first | done | rfl | (simp only [List.length_drop, List.length_take]; rfl)) ?_; (with_reducible refine (laws_eqFamily.calls k r3 _ _ r4 r3 _ _ r4 true _ ?side1 ?side2 ?side3 ?side4 A57.out).mono ?_); (case side1 => exact (Kd.S_reads' (n := r4.length) (A := Az49) (c := cz49) (by (with_reducible repeat (first | apply Kd.S_alloc | apply Kd.S_drewN | apply Kd.S_drew)); exact HO48.out)).2.2); (case side2 => exact (Kd.S_reads' (n := r4.length) (A := Az49) (c := cz49) HO48.out).2.1); (case side3 => exact (Kd.S_reads' (n := r4.length) (A := Az9) (c := cz9) (by (with_reducible repeat (first | apply Kd.S_alloc | apply Kd.S_drewN | apply Kd.S_drew)); exact HO8.out)).2.2); (case side4 => exact (Kd.S_reads' (n := r4.length) (A := Az9) (c := cz9) HO8.out).2.1); rintro e w7 ⟨rfl, hb⟩; refine ⟨_, rfl, ?_⟩; have n1_ := Aside0.mk (Kd.S_below (by (with_reducible repeat (first | apply Kd.S_alloc | apply Kd.S_drewN | apply Kd.S_drew)); exact HO8.out) hb); have n2_ := Aside0.mk (Kd.S_below (by (with_reducible repeat (first | apply Kd.S_alloc | apply Kd.S_drewN | apply Kd.S_drew)); exact HO13.out) hb); have n3_ := Aside0.mk (Kd.S_below (by (with_reducible repeat (first | apply Kd.S_alloc | apply Kd.S_drewN | apply Kd.S_drew)); exact HO48.out) hb); have n4_ := Aside0.mk (blk_below (g := w1.heap.size) (o := .cells #[.int .i64 r3, .slice Az9 r4.length cz9] 35 (0, 0)) (by (with_reducible repeat (first | refine blk_drewN ?_ _ | refine blk_drew ?_ | refine blk_alloc ?_ _)); exact HX10.out) hb); have n5_ := Aside0.mk (blk_below (g := w2.heap.size) (o := .cells #[.int .i64 r3, .slice Az14 r4.length cz14] 35 (0, 0)) (by (with_reducible repeat (first | refine blk_drewN ?_ _ | refine blk_drew ?_ | refine blk_alloc ?_ _)); exact HX18.out) hb); have n6_ := Aside0.mk (blk_below (g := w6.heap.size) (o := .cells #[.int .i64 r3, .slice Az49 r4.length cz49] 35 (0, 0)) (by repeat (first | exact blk_new_at (by simp) | (with_reducible refine blk_drewN ?_ _) | (with_reducible refine blk_drew ?_) | (with_reducible refine blk_alloc ?_ _))) hb); have n7_ := Aside0.mk (below_step (by repeat (first | (with_reducible first | exact HB.out | apply below_alloc | apply pw_below_drewN | apply below_drew1) | exact HB.out)) hb); have C58 : Aside0 (w6.heap.size + 1 ≤ w7.heap.size) := ⟨by have h_ := hb.size; (try simp at h_); omega⟩; have CCn_ := Aside0.mk (And.intro CC.out C58.out); clear CC; have CC := CCn_; clear CCn_; clear HO8; clear HO13; clear HO48; clear HX10; clear HX18; clear HB; clear hl50; clear hx51; clear hx52; clear hl53; clear hx54; clear hx55; have HO8 := n1_; clear n1_; have HO13 := n2_; clear n2_; have HO48 := n3_; clear n3_; have HX10 := n4_; clear n4_; have HX18 := n5_; clear n5_; have HX56 := n6_; clear n6_; have HB := n7_; clear n7_; (try clear hb); have hl59 : w1.heap.size < w7.heap.size := blk_lt HX10.out; have hx60 : w7.cell? ⟨w1.heap.size, 0, none⟩ = some (.int .i64 r3) := (blk_cell HX10.out 0).trans rfl; have hx61 : w7.cell? ⟨w1.heap.size, 1, none⟩ = some (.slice Az9 r4.length cz9) := (blk_cell HX10.out 1).trans rfl; have hl62 : w2.heap.size < w7.heap.size := blk_lt HX18.out; have hx63 : w7.cell? ⟨w2.heap.size, 0, none⟩ = some (.int .i64 r3) := (blk_cell HX18.out 0).trans rfl; have hx64 : w7.cell? ⟨w2.heap.size, 1, none⟩ = some (.slice Az14 r4.length cz14) := (blk_cell HX18.out 1).trans rfl; have hl65 : w6.heap.size < w7.heap.size := blk_lt HX56.out; have hx66 : w7.cell? ⟨w6.heap.size, 0, none⟩ = some (.int .i64 r3) := (blk_cell HX56.out 0).trans rfl; have hx67 : w7.cell? ⟨w6.heap.size, 1, none⟩ = some (.slice Az49 r4.length cz49) := (blk_cell HX56.out 1).trans rfl) | ((with_reducible refine gate_callee (f := 35) rfl ?_); refine goesL_ (some 60) rfl rfl Tryd.func35 (by kernel_rfl) rfl #[.agg #[.int .i64 r3, .slice Az14 r4.length cz14], .int .i64 1] rfl (by (try simp only [List.map_toArray, List.map_cons, List.map_nil]); first | done | rfl | (simp only [List.length_drop, List.length_take]; rfl)) ?_; (with_reducible refine (calls_as ?eq_ (laws_heldFamily.calls k r3 Az14 cz14 ys28 1 m27 _ ?side1 ?side2 A68.out)).mono ?_); (case eq_ => rw [show ys28.length = r4.length from (Kd.S_reads' HO13.out).1.symm]); (case side1 => exact (Kd.S_reads' (n := r4.length) (A := Az14) (c := cz14) (by (with_reducible repeat (first | apply Kd.S_alloc | apply Kd.S_drewN | apply Kd.S_drew)); exact HO13.out)).2.2); (case side2 => exact Nat.le_trans (Nat.le_of_eq (Kd.S_reads' HO13.out).1.symm) (Kd.S_reads' HO13.out).2.1); rintro e w8 ⟨rfl, hb⟩; refine ⟨_, rfl, ?_⟩; have n1_ := Aside0.mk (Kd.S_below (by (with_reducible repeat (first | apply Kd.S_alloc | apply Kd.S_drewN | apply Kd.S_drew)); exact HO8.out) hb); have n2_ := Aside0.mk (Kd.S_below (by (with_reducible repeat (first | apply Kd.S_alloc | apply Kd.S_drewN | apply Kd.S_drew)); exact HO13.out) hb); have n3_ := Aside0.mk (Kd.S_below (by (with_reducible repeat (first | apply Kd.S_alloc | apply Kd.S_drewN | apply Kd.S_drew)); exact HO48.out) hb); have n4_ := Aside0.mk (blk_below (g := w1.heap.size) (o := .cells #[.int .i64 r3, .slice Az9 r4.length cz9] 35 (0, 0)) (by (with_reducible repeat (first | refine blk_drewN ?_ _ | refine blk_drew ?_ | refine blk_alloc ?_ _)); exact HX10.out) hb); have n5_ := Aside0.mk (blk_below (g := w2.heap.size) (o := .cells #[.int .i64 r3, .slice Az14 r4.length cz14] 35 (0, 0)) (by (with_reducible repeat (first | refine blk_drewN ?_ _ | refine blk_drew ?_ | refine blk_alloc ?_ _)); exact HX18.out) hb); have n6_ := Aside0.mk (blk_below (g := w6.heap.size) (o := .cells #[.int .i64 r3, .slice Az49 r4.length cz49] 35 (0, 0)) (by (with_reducible repeat (first | refine blk_drewN ?_ _ | refine blk_drew ?_ | refine blk_alloc ?_ _)); exact HX56.out) hb); have n7_ := Aside0.mk (below_step (by repeat (first | (with_reducible first | exact HB.out | apply below_alloc | apply pw_below_drewN | apply below_drew1) | exact HB.out)) hb); have C69 : Aside0 (w7.heap.size ≤ w8.heap.size) := ⟨by have h_ := hb.size; (try simp at h_); omega⟩; have CCn_ := Aside0.mk (And.intro CC.out C69.out); clear CC; have CC := CCn_; clear CCn_; clear HO8; clear HO13; clear HO48; clear HX10; clear HX18; clear HX56; clear HB; clear hl59; clear hx60; clear hx61; clear hl62; clear hx63; clear hx64; clear hl65; clear hx66; clear hx67; have HO8 := n1_; clear n1_; have HO13 := n2_; clear n2_; have HO48 := n3_; clear n3_; have HX10 := n4_; clear n4_; have HX18 := n5_; clear n5_; have HX56 := n6_; clear n6_; have HB := n7_; clear n7_; (try clear hb); have hl70 : w1.heap.size < w8.heap.size := blk_lt HX10.out; have hx71 : w8.cell? ⟨w1.heap.size, 0, none⟩ = some (.int .i64 r3) := (blk_cell HX10.out 0).trans rfl; have hx72 : w8.cell? ⟨w1.heap.size, 1, none⟩ = some (.slice Az9 r4.length cz9) := (blk_cell HX10.out 1).trans rfl; have hl73 : w2.heap.size < w8.heap.size := blk_lt HX18.out; have hx74 : w8.cell? ⟨w2.heap.size, 0, none⟩ = some (.int .i64 r3) := (blk_cell HX18.out 0).trans rfl; have hx75 : w8.cell? ⟨w2.heap.size, 1, none⟩ = some (.slice Az14 r4.length cz14) := (blk_cell HX18.out 1).trans rfl; have hl76 : w6.heap.size < w8.heap.size := blk_lt HX56.out; have hx77 : w8.cell? ⟨w6.heap.size, 0, none⟩ = some (.int .i64 r3) := (blk_cell HX56.out 0).trans rfl; have hx78 : w8.cell? ⟨w6.heap.size, 1, none⟩ = some (.slice Az49 r4.length cz49) := (blk_cell HX56.out 1).trans rfl))
 go_ret
 exact ⟨rfl, by repeat (first | (with_reducible first | exact HB.out | apply below_alloc | apply pw_below_drewN | apply below_drew1) | exact HB.out)⟩
def laws_FnExactReadFamily.Way0 (a0 : ByteArray) : Prop := ∃ k : Nat, (decide (1048576 < (a0.size : Int)) = true) ∧ (decide (1048576 < a0.size) = true)
def laws_FnExactReadFamily.Way1 (a0 : ByteArray) : Prop := ∃ k : Nat, ∃ (r3 : Int) (r4 : List (List Int)) (r5 : Int) (m27 : Int) (ys28 : List (List Int)), (decide (1048576 < (a0.size : Int)) = false) ∧ (decide (1048576 < a0.size) = false) ∧ (spec_ReadFamily.f k a0 = some (r3, r4, r5)) ∧ (impl_ReadFamily.f k a0 = some (r3, r4, r5)) ∧ (laws_eqFamily.f k r3 r4 r3 r4 = some true) ∧ (laws_markFamily.f k r3 r4 1 = some (m27, ys28)) ∧ (laws_heldFamily.f k r3 ys28 1 = some m27) ∧ (decide (m27 < 0) = false) ∧ (impl_ReadFamily.f k a0 = some (r3, r4, r5)) ∧ (laws_eqFamily.f k r3 r4 r3 r4 = some true) ∧ (laws_heldFamily.f k r3 ys28 1 = some m27) ∧ (decide (m27 < 0) = false)
def laws_FnExactReadFamily.Pure : Prop := ∀ (a0 : ByteArray), (a0.size ≤ maxLen) → laws_FnExactReadFamily.Way0 a0 ∨ laws_FnExactReadFamily.Way1 a0
theorem laws_FnExactReadFamily.walk (P : laws_FnExactReadFamily.Pure) (a0 : ByteArray)  (w : World)  (wf0 : (a0.size ≤ maxLen)) (hG : Glob w) :
  Calls Tryd.prog 8 #[.string a0] w fun e w' => e = .returned (.bool true) ∧ Below w.heap.size w w' := by
 rcases P a0 wf0 with h | h
 ·obtain ⟨k, t1, t2⟩ := h
  exact laws_FnExactReadFamily.way0 k a0  w hG  t1 t2
 ·obtain ⟨k, r3, r4, r5, m27, ys28, t1, t2, A6, A11, A19, A29, A37, t45, A46, A57, A68, t79⟩ := h
  exact laws_FnExactReadFamily.way1 k a0 r3 r4 r5 m27 ys28 w hG  t1 t2 A6 A11 A19 A29 A37 t45 A46 A57 A68 t79
section
variable {H : Type} {enc : TypeId × Value → H} {P : Program} {w : World} {base : Nat} {held : Bool} {α : Type}
end
end Go.Proofs.YtijmdlhcidjpmaaDoor.P

namespace Go.Proofs.YtijmdlhcidjpmaaDoor.P
open Go.RowKit Go.Proofs.YtijmdlhcidjpmaaDoorW.PrintWords Go.Proofs.YtijmdlhcidjpmaaDoorW.PrintLast Go.Proofs.YtijmdlhcidjpmaaDoorW.PrintMore
attribute [local go_sem] max2_int min2_int max_two min_two max_three min_three max_four min_four
set_option linter.unusedVariables false
set_option linter.unusedSimpArgs false
end Go.Proofs.YtijmdlhcidjpmaaDoor.P

namespace Go.Proofs.YtijmdlhcidjpmaaDoor.P
open Go.RowKit Go.Proofs.YtijmdlhcidjpmaaDoorW.PrintWords Go.Proofs.YtijmdlhcidjpmaaDoorW.PrintLast Go.Proofs.YtijmdlhcidjpmaaDoorW.PrintMore
attribute [local go_sem] max2_int min2_int max_two min_two max_three min_three max_four min_four
set_option linter.unusedVariables false
set_option linter.unusedSimpArgs false
end Go.Proofs.YtijmdlhcidjpmaaDoor.P

namespace Go.Proofs.YtijmdlhcidjpmaaDoor.P
open Go.RowKit Go.Proofs.YtijmdlhcidjpmaaDoorW.PrintWords Go.Proofs.YtijmdlhcidjpmaaDoorW.PrintLast Go.Proofs.YtijmdlhcidjpmaaDoorW.PrintMore
attribute [local go_sem] max2_int min2_int max_two min_two max_three min_three max_four min_four
set_option linter.unusedVariables false
set_option linter.unusedSimpArgs false
end Go.Proofs.YtijmdlhcidjpmaaDoor.P

namespace Go.Proofs.YtijmdlhcidjpmaaDoor.P
open Go.RowKit Go.Proofs.YtijmdlhcidjpmaaDoorW.PrintWords Go.Proofs.YtijmdlhcidjpmaaDoorW.PrintLast Go.Proofs.YtijmdlhcidjpmaaDoorW.PrintMore
attribute [local go_sem] max2_int min2_int max_two min_two max_three min_three max_four min_four
set_option linter.unusedVariables false
set_option linter.unusedSimpArgs false
theorem eqInt64S_loop (a b : List Int) (hl : a.length ≤ 1048576) (hab : a.length = b.length) : ∀ (d i : Nat), i + d = a.length → Ev (fun k => laws_eqInt64S.l0 k a b (i : Int)) (decide (a.drop i = b.drop i)) := by
 intro d
 induction d with
 | zero =>
  intro i hi
  refine Ev.step (f := fun _ => some true) (fun k => ?_) ?_
  ·simp only [laws_eqInt64S.l0]
   rw [if_neg (by omega)]
  ·rw [List.drop_eq_nil_of_le (by omega), List.drop_eq_nil_of_le (by omega), decide_eq_true rfl]
   exact Ev.now _
 | succ d ih =>
  intro i hi
  have h1 : i < a.length := by omega
  have h2 : i < b.length := by omega
  have ed : (a.drop i = b.drop i) ↔ (a[i] = b[i] ∧ a.drop (i + 1) = b.drop (i + 1)) := by
   rw [List.drop_eq_getElem_cons h1, List.drop_eq_getElem_cons h2, List.cons.injEq]
  by_cases e : a[i] = b[i]
  ·rw [show decide (a.drop i = b.drop i) = decide (a.drop (i + 1) = b.drop (i + 1)) from by simp only [ed, e, true_and]]
   refine Ev.step (fun k => ?_) (ih (i + 1) (by omega))
   simp only [laws_eqInt64S.l0]
   rw [if_pos (by omega), if_pos (by omega), if_pos (by omega), rd_nat a i h1, rd_nat b i h2, if_pos e, wr (by omega) (by omega)]
   rfl
  ·refine Ev.step (f := fun _ => some false) (fun k => ?_) ?_
   ·simp only [laws_eqInt64S.l0]
    rw [if_pos (by omega), if_pos (by omega), if_pos (by omega), rd_nat a i h1, rd_nat b i h2, if_neg e]
   ·rw [decide_eq_false (by rw [ed]; simp [e])]
    exact Ev.now _
theorem eqInt64S_ev (a b : List Int) (hl : a.length ≤ 1048576) : Ev (fun k => laws_eqInt64S.f k a b) (decide (a = b)) := by
 unfold laws_eqInt64S.f
 by_cases h : a.length = b.length
 ·simp only [if_pos (show (a.length : Int) = (b.length : Int) by omega)]
  have := eqInt64S_loop a b hl h a.length 0 (by omega)
  rw [List.drop_zero, List.drop_zero] at this
  exact this
 ·simp only [if_neg (show ¬ (a.length : Int) = (b.length : Int) by omega)]
  rw [decide_eq_false (by intro e; exact h (by rw [e]))]
  exact Ev.now _
def risesB (lo hi : Int) : Option Int → List Int → Bool
 | _, [] => true
 | none, x :: l => decide (lo ≤ x ∧ x ≤ hi) && risesB lo hi (some x) l
 | some y, x :: l => decide (lo ≤ x ∧ x ≤ hi) && (decide (y < x) && risesB lo hi (some x) l)
def groupB (h : Int) (l : List Int) : Bool := risesB 0 (h - 1) none l
def before (l : List Int) (i : Nat) : Option Int := if i = 0 then none else l[i - 1]?
theorem before_succ (l : List Int) (i : Nat) (h : i < l.length) : before l (i + 1) = some l[i] := by
 simp [before, h]
theorem spec_rises_loop (xs : List Int) (lo hi : Int) (hl : xs.length ≤ 4611686018427387904) : ∀ (d i : Nat), i + d = xs.length → Ev (fun k => spec_l00Rises.l0 k xs lo hi (i : Int)) (risesB lo hi (before xs i) (xs.drop i)) := by
 intro d
 induction d with
 | zero =>
  intro i hid
  refine Ev.step (f := fun _ => some true) (fun k => ?_) ?_
  ·simp only [spec_l00Rises.l0]
   rw [if_neg (by omega)]
  ·rw [List.drop_eq_nil_of_le (by omega)]
   rw [show risesB lo _ (before xs i) [] = true from by simp [risesB]]
   exact Ev.now _
 | succ d ih =>
  intro i hid
  have h1 : i < xs.length := by omega
  have IH := ih (i + 1) (by omega)
  rw [before_succ xs i h1] at IH
  rw [List.drop_eq_getElem_cons h1]
  refine Ev.step (f := fun k => if decide (lo ≤ xs[i] ∧ xs[i] ≤ hi) = true then (if ((i : Int)) > 0 then (if 0 ≤ (wrap64 ((i : Int) - 1)) then (if (wrap64 ((i : Int) - 1)) < (xs.length : Int) then (if (rd xs (wrap64 ((i : Int) - 1))) ≥ xs[i] then (some false) else (spec_l00Rises.l0 k xs lo hi ((i + 1 : Nat) : Int))) else (none)) else (none)) else (spec_l00Rises.l0 k xs lo hi ((i + 1 : Nat) : Int))) else (some false)) (fun k => ?_) ?_
  ·simp only [spec_l00Rises.l0]
   rw [if_pos (by omega), if_pos (by omega), rd_nat xs i h1, spec_l00In_eq, wr (x := (i : Int) + 1) (by omega) (by omega)]
   rfl
  ·by_cases hc : lo ≤ xs[i] ∧ xs[i] ≤ hi
   ·simp only [decide_eq_true hc, if_true]
    by_cases h0 : i = 0
    ·subst h0
     simp only [show ¬ (((0 : Nat) : Int) > 0) by omega, if_false]
     simp only [before, if_true, risesB, decide_eq_true hc, Bool.true_and]
     exact IH
    ·have hp : i - 1 < xs.length := by omega
     have e1 : wrap64 ((i : Int) - 1) = ((i - 1 : Nat) : Int) := by rw [wr (by omega) (by omega)]; omega
     simp only [if_pos (show (i : Int) > 0 by omega), e1, if_pos (show (0 : Int) ≤ ((i - 1 : Nat) : Int) by omega), if_pos (show ((i - 1 : Nat) : Int) < (xs.length : Int) by omega), rd_nat xs (i - 1) hp]
     simp only [before, if_neg h0, List.getElem?_eq_getElem hp, risesB, decide_eq_true hc, Bool.true_and]
     by_cases hb : xs[i - 1] < xs[i]
     ·simp only [if_neg (show ¬ xs[i - 1] ≥ xs[i] by omega), decide_eq_true hb, Bool.true_and]
      exact IH
     ·simp only [if_pos (show xs[i - 1] ≥ xs[i] by omega), decide_eq_false hb, Bool.false_and]
      exact Ev.now _
   ·simp only [decide_eq_false hc]
    rw [show risesB lo hi (before xs i) (xs[i] :: xs.drop (i + 1)) = false from by cases before xs i <;> simp only [risesB, decide_eq_false hc, Bool.false_and]]
    exact Ev.now _
theorem spec_group_ev (h : Int) (l : List Int) (hl : l.length ≤ 4611686018427387904) (hh : -1000 ≤ h ∧ h ≤ 1000) : Ev (fun k => spec_l01Group.f k h l) (groupB h l) := by
 unfold spec_l01Group.f
 rw [wr (by omega) (by omega)]
 refine Ev.bind (f := fun _ t => some t) ?_ (Ev.now _)
 unfold spec_l00Rises.f
 exact spec_rises_loop l 0 (h - 1) hl l.length 0 (by omega)
theorem impl_group_loop (h : Int) (hh : -1000 ≤ h ∧ h ≤ 1000) (xs : List Int) (hl : xs.length ≤ 4611686018427387904) : ∀ (d i : Nat), i + d = xs.length → Ev (fun k => impl_isGroup.l0 k h xs xs (xs.length : Int) (i : Int)) (risesB 0 (h - 1) (before xs i) (xs.drop i)) := by
 intro d
 induction d with
 | zero =>
  intro i hi
  refine Ev.step (f := fun _ => some true) (fun k => ?_) ?_
  ·simp only [impl_isGroup.l0]
   rw [if_neg (by omega)]
  ·rw [List.drop_eq_nil_of_le (by omega)]
   rw [show risesB 0 (h - 1) (before xs i) [] = true from by simp [risesB]]
   exact Ev.now _
 | succ d ih =>
  intro i hi
  have h1 : i < xs.length := by omega
  have IH := ih (i + 1) (by omega)
  rw [before_succ xs i h1] at IH
  rw [List.drop_eq_getElem_cons h1]
  refine Ev.step (f := fun k => if decide (0 ≤ xs[i] ∧ xs[i] ≤ h - 1) = true then (if ((i : Int)) > 0 then (if 0 ≤ (wrap64 ((i : Int) - 1)) then (if (wrap64 ((i : Int) - 1)) < (xs.length : Int) then (if xs[i] ≤ (rd xs (wrap64 ((i : Int) - 1))) then (some false) else (impl_isGroup.l0 k h xs xs (xs.length : Int) ((i + 1 : Nat) : Int))) else (none)) else (none)) else (impl_isGroup.l0 k h xs xs (xs.length : Int) ((i + 1 : Nat) : Int))) else (some false)) (fun k => ?_) ?_
  ·simp only [impl_isGroup.l0]
   rw [if_pos (by omega), if_pos (by omega), if_pos (by omega), rd_nat xs i h1, impl_within_eq, wr (x := h - 1) (by omega) (by omega), wr (x := (i : Int) + 1) (by omega) (by omega)]
   rfl
  ·by_cases hc : 0 ≤ xs[i] ∧ xs[i] ≤ h - 1
   ·simp only [decide_eq_true hc, if_true]
    by_cases h0 : i = 0
    ·subst h0
     simp only [show ¬ (((0 : Nat) : Int) > 0) by omega, if_false]
     simp only [before, if_true, risesB, decide_eq_true hc, Bool.true_and]
     exact IH
    ·have hp : i - 1 < xs.length := by omega
     have e1 : wrap64 ((i : Int) - 1) = ((i - 1 : Nat) : Int) := by rw [wr (by omega) (by omega)]; omega
     simp only [if_pos (show (i : Int) > 0 by omega), e1, if_pos (show (0 : Int) ≤ ((i - 1 : Nat) : Int) by omega), if_pos (show ((i - 1 : Nat) : Int) < (xs.length : Int) by omega), rd_nat xs (i - 1) hp]
     simp only [before, if_neg h0, List.getElem?_eq_getElem hp, risesB, decide_eq_true hc, Bool.true_and]
     by_cases hb : xs[i - 1] < xs[i]
     ·simp only [if_neg (show ¬ xs[i] ≤ xs[i - 1] by omega), decide_eq_true hb, Bool.true_and]
      exact IH
     ·simp only [if_pos (show xs[i] ≤ xs[i - 1] by omega), decide_eq_false hb, Bool.false_and]
      exact Ev.now _
   ·simp only [decide_eq_false hc]
    rw [show risesB 0 (h - 1) (before xs i) (xs[i] :: xs.drop (i + 1)) = false from by cases before xs i <;> simp only [risesB, decide_eq_false hc, Bool.false_and]]
    exact Ev.now _
theorem impl_group_ev (h : Int) (l : List Int) (hl : l.length ≤ 4611686018427387904) (hh : -1000 ≤ h ∧ h ≤ 1000) : Ev (fun k => impl_isGroup.f k h l) (groupB h l) := by
 unfold impl_isGroup.f
 exact impl_group_loop h hh l hl l.length 0 (by omega)
def letters (l : List Int) : List Int := l.map fun x => (wrap64 (65 + x)) % 256
def groupTextB (l : List Int) : ByteArray := if l = [] then (⟨#[45]⟩ : ByteArray) else strOfNums (letters l)
theorem letters_snoc (l : List Int) (i : Nat) (h : i < l.length) : letters (l.take i) ++ [(wrap64 (65 + l[i])) % 256] = letters (l.take (i + 1)) := by
 rw [List.take_succ_eq_append_getElem h, letters, letters, List.map_append]
 rfl
theorem letters_length (l : List Int) : (letters l).length = l.length := by simp [letters]
theorem impl_groupText_ev (l : List Int) (hl : l.length ≤ 1048576) : Ev (fun k => impl_groupText.f k l) (groupTextB l) := by
 unfold impl_groupText.f groupTextB
 by_cases h0 : l = []
 ·subst h0
  exact Ev.now _
 ·simp only [if_neg h0, if_neg (show ¬ ((l.length : Int) = 0) from by have := List.length_pos_iff.2 h0; omega)]
  have go : ∀ (d i : Nat), i + d = l.length → Ev (fun k => impl_groupText.l0 k (letters (l.take i)) l (l.length : Int) (i : Int)) (strOfNums (letters l)) := by
   intro d
   induction d with
   | zero =>
    intro i hi
    refine Ev.step (f := fun _ => some (strOfNums (letters l))) (fun k => ?_) (Ev.now _)
    simp only [impl_groupText.l0]
    rw [if_neg (by omega), List.take_of_length_le (show l.length ≤ i by omega)]
   | succ d ih =>
    intro i hi
    have hlt : i < l.length := by omega
    refine Ev.step (fun k => ?_) (ih (i + 1) (by omega))
    simp only [impl_groupText.l0]
    rw [if_pos (by omega), if_pos (by omega), if_pos (by omega), if_pos (by rw [letters_length, List.length_take]; omega), rd_nat l i hlt, letters_snoc l i hlt, wr (x := (i : Int) + 1) (by omega) (by omega)]
    rfl
  exact go l.length 0 (by omega)
theorem scan_ev {ρ : Type} {l : Nat → Int → Option ρ} {n : Nat} {q : Nat → Bool} {fin stop : ρ}
  (hgo : ∀ i : Nat, i < n → q i = true → ∀ r, Ev (fun k => l k ((i + 1 : Nat) : Int)) r → Ev (fun k => l k (i : Int)) r)
  (hstop : ∀ i : Nat, i < n → q i = false → Ev (fun k => l k (i : Int)) stop)
  (hend : Ev (fun k => l k (n : Int)) fin) : Ev (fun k => l k 0) (if (List.range n).all q then fin else stop) := by
 have key : ∀ d i : Nat, i + d = n → Ev (fun k => l k (i : Int)) (if ((List.range n).drop i).all q then fin else stop) := by
  intro d
  induction d with
  | zero =>
   intro i hi
   obtain rfl : i = n := by omega
   rw [List.drop_eq_nil_of_le (by simp)]
   exact hend
  | succ d ih =>
   intro i hi
   rw [List.drop_eq_getElem_cons (by simp; omega), List.getElem_range, List.all_cons]
   cases hq : q i with
   | false => exact hstop i (by omega) hq
   | true => rw [Bool.true_and]; exact hgo i (by omega) hq _ (ih (i + 1) (by omega))
 have := key n 0 (by omega)
 rw [List.drop_zero] at this
 exact this
theorem rdL_nat (xs : List (List Int)) (i : Nat) (h : i < xs.length) : rd_L1 xs (i : Int) = xs[i] := by
 simp [rd_L1, h]
theorem sum_take_le (l : List Nat) (i : Nat) : (l.take i).sum ≤ l.sum := by
 conv => rhs; rw [← List.take_append_drop i l, List.sum_append]
 omega
theorem sum_take_succ (l : List Nat) (i : Nat) (h : i < l.length) : (l.take (i + 1)).sum = (l.take i).sum + l[i] := by
 rw [List.take_succ_eq_append_getElem h, List.sum_append]; simp
theorem eqInt64SS_ev (a b : List (List Int)) (hl : a.length ≤ 1048576) (hr : ∀ r ∈ a, r.length ≤ 1048576) : Ev (fun k => laws_eqInt64SS.f k a b) (decide (a = b)) := by
 unfold laws_eqInt64SS.f
 by_cases h : a.length = b.length
 ·simp only [if_pos (show (a.length : Int) = (b.length : Int) by omega)]
  have key : ∀ (d i : Nat), i + d = a.length → Ev (fun k => laws_eqInt64SS.l0 k a b (i : Int)) (decide (a.drop i = b.drop i)) := by
   intro d
   induction d with
   | zero =>
    intro i hi
    refine Ev.step (f := fun _ => some true) (fun k => ?_) ?_
    ·simp only [laws_eqInt64SS.l0]
     rw [if_neg (by omega)]
    ·rw [List.drop_eq_nil_of_le (by omega), List.drop_eq_nil_of_le (by omega), decide_eq_true rfl]
     exact Ev.now _
   | succ d ih =>
    intro i hi
    have h1 : i < a.length := by omega
    have h2 : i < b.length := by omega
    have ed : (a.drop i = b.drop i) ↔ (a[i] = b[i] ∧ a.drop (i + 1) = b.drop (i + 1)) := by
     rw [List.drop_eq_getElem_cons h1, List.drop_eq_getElem_cons h2, List.cons.injEq]
    refine Ev.step (f := fun k => (laws_eqInt64S.f k a[i] b[i]).bind fun t => if t = true then laws_eqInt64SS.l0 k a b ((i + 1 : Nat) : Int) else some false) (fun k => ?_) ?_
    ·simp only [laws_eqInt64SS.l0]
     rw [if_pos (by omega), if_pos (by omega), if_pos (by omega), rdL_nat a i h1, rdL_nat b i h2, wr (by omega) (by omega)]
     rfl
    ·refine Ev.bind (eqInt64S_ev _ _ (hr _ (List.getElem_mem h1))) ?_
     by_cases e : a[i] = b[i]
     ·rw [decide_eq_true e, show decide (a.drop i = b.drop i) = decide (a.drop (i + 1) = b.drop (i + 1)) from by simp only [ed, e, true_and]]
      exact ih (i + 1) (by omega)
     ·rw [decide_eq_false e, decide_eq_false (by rw [ed]; simp [e])]
      exact Ev.now _
  have := key a.length 0 (by omega)
  rw [List.drop_zero, List.drop_zero] at this
  exact this
 ·simp only [if_neg (show ¬ (a.length : Int) = (b.length : Int) by omega)]
  rw [decide_eq_false (by intro e; exact h (by rw [e]))]
  exact Ev.now _
theorem eqInt64SS_same (a : List (List Int)) (hl : a.length ≤ 1048576) (hr : ∀ r ∈ a, r.length ≤ 1048576) : Ev (fun k => laws_eqInt64SS.f k a a) true := by
 have := eqInt64SS_ev a a hl hr
 rwa [decide_eq_true rfl] at this
def From (P : Nat → Prop) : Prop := ∃ K, ∀ k, K ≤ k → P k
theorem From.and {P Q : Nat → Prop} (hp : From P) (hq : From Q) : From fun k => P k ∧ Q k := by
 obtain ⟨K, hK⟩ := hp
 obtain ⟨L, hL⟩ := hq
 exact ⟨max K L, fun k h => ⟨hK k (by omega), hL k (by omega)⟩⟩
theorem From.now {P : Nat → Prop} (h : From P) : ∃ k, P k := by
 obtain ⟨K, hK⟩ := h
 exact ⟨K, hK K (Nat.le_refl _)⟩
end Go.Proofs.YtijmdlhcidjpmaaDoor.P

namespace Go.Proofs.YtijmdlhcidjpmaaDoor.P
open Go.RowKit Go.Proofs.YtijmdlhcidjpmaaDoorW.PrintWords Go.Proofs.YtijmdlhcidjpmaaDoorW.PrintLast Go.Proofs.YtijmdlhcidjpmaaDoorW.PrintMore
attribute [local go_sem] max2_int min2_int max_two min_two max_three min_three max_four min_four
set_option linter.unusedVariables false
set_option linter.unusedSimpArgs false
def upFrom (a : Int) (n : Nat) : List Int := (List.range n).map fun i : Nat => a + (i : Int)
theorem upFrom_length (a : Int) (n : Nat) : (upFrom a n).length = n := by simp [upFrom]
theorem upFrom_succ (a : Int) (n : Nat) : upFrom a (n + 1) = upFrom a n ++ [a + (n : Int)] := by simp [upFrom, List.range_succ]
theorem markInt64S_ev (l : List Int) (a : Int) (ha : 0 ≤ a ∧ a ≤ 2147483648) (hl : l.length ≤ 4611686018427387904) : Ev (fun k => laws_markInt64S.f k l a) (a + (l.length : Int), upFrom a l.length) := by
 unfold laws_markInt64S.f
 have key : ∀ d i : Nat, i + d = l.length → Ev (fun k => laws_markInt64S.l0 k (upFrom a i ++ l.drop i) (a + (i : Int)) (i : Int)) (a + (l.length : Int), upFrom a l.length) := by
  intro d
  induction d with
  | zero =>
   intro i hi
   obtain rfl : i = l.length := by omega
   refine Ev.step (f := fun _ => some (a + (l.length : Int), upFrom a l.length)) (fun k => ?_) (Ev.now _)
   simp only [laws_markInt64S.l0]
   rw [if_neg (by simp [upFrom_length]), List.drop_length, List.append_nil]
  | succ d ih =>
   intro i hi
   have hlt : i < l.length := by omega
   refine Ev.step (fun k => ?_) (ih (i + 1) (by omega))
   simp only [laws_markInt64S.l0]
   rw [if_pos (by simp [upFrom_length]; omega), if_pos (by omega), wr (by omega) (by omega), wr (by omega) (by omega), Int.toNat_natCast, List.set_append_right _ _ (by rw [upFrom_length]; exact Nat.le_refl _), upFrom_length, Nat.sub_self, List.drop_eq_getElem_cons hlt, List.set_cons_zero, upFrom_succ, List.append_assoc]
   rw [show a + (i : Int) + 1 = a + ((i + 1 : Nat) : Int) by omega]
   rfl
 have := key l.length 0 (by omega)
 simpa [upFrom] using this
theorem heldInt64S_ev (a : Int) (n : Nat) (ha : 0 ≤ a ∧ a ≤ 2147483648) (hl : n ≤ 4611686018427387904) : Ev (fun k => laws_heldInt64S.f k (upFrom a n) a) (a + (n : Int)) := by
 unfold laws_heldInt64S.f
 have key : ∀ d i : Nat, i + d = n → Ev (fun k => laws_heldInt64S.l0 k (upFrom a n) (a + (i : Int)) (i : Int)) (a + (n : Int)) := by
  intro d
  induction d with
  | zero =>
   intro i hi
   obtain rfl : i = n := by omega
   refine Ev.step (f := fun _ => some (a + (i : Int))) (fun k => ?_) (Ev.now _)
   simp only [laws_heldInt64S.l0]
   rw [if_neg (by simp [upFrom_length])]
  | succ d ih =>
   intro i hi
   have hlt : i < (upFrom a n).length := by rw [upFrom_length]; omega
   refine Ev.step (fun k => ?_) (ih (i + 1) (by omega))
   simp only [laws_heldInt64S.l0]
   rw [if_pos (by simp [upFrom_length]; omega), if_pos (by omega), rd_nat _ i hlt, if_pos (by simp [upFrom]), wr (by omega) (by omega), wr (by omega) (by omega)]
   rw [show a + (i : Int) + 1 = a + ((i + 1 : Nat) : Int) by omega]
   rfl
 have := key n 0 (by omega)
 simpa using this
def preLen (rows : List (List Int)) (i : Nat) : Nat := ((rows.map List.length).take i).sum
def allLen (rows : List (List Int)) : Nat := (rows.map List.length).sum
def upRow (a : Int) (rows : List (List Int)) (i : Nat) : List Int := upFrom (a + (preLen rows i : Int)) ((rows.map List.length).getD i 0)
def upRows (a : Int) (rows : List (List Int)) : List (List Int) := (List.range rows.length).map (upRow a rows)
theorem preLen_succ (rows : List (List Int)) (i : Nat) (h : i < rows.length) : preLen rows (i + 1) = preLen rows i + rows[i].length := by
 have := sum_take_succ (rows.map List.length) i (by simpa using h)
 rwa [List.getElem_map] at this
theorem preLen_le (rows : List (List Int)) (i : Nat) : preLen rows i ≤ allLen rows := sum_take_le _ _
theorem preLen_end (rows : List (List Int)) : preLen rows rows.length = allLen rows := by
 unfold preLen allLen
 rw [List.take_of_length_le (by simp)]
theorem upRows_length (a : Int) (rows : List (List Int)) : (upRows a rows).length = rows.length := by simp [upRows]
theorem upRow_eq (a : Int) (rows : List (List Int)) (i : Nat) (h : i < rows.length) : upRow a rows i = upFrom (a + (preLen rows i : Int)) rows[i].length := by
 unfold upRow
 rw [List.getD_eq_getElem?_getD, List.getElem?_map, List.getElem?_eq_getElem h]
 rfl
theorem markInt64SS_ev (rows : List (List Int)) (a : Int) (ha : 0 ≤ a ∧ a ≤ 1073741824) (hl : rows.length ≤ 1073741824) (hs : allLen rows ≤ 1073741824) : Ev (fun k => laws_markInt64SS.f k rows a) (a + (allLen rows : Int), upRows a rows) := by
 unfold laws_markInt64SS.f
 have key : ∀ d i : Nat, i + d = rows.length → Ev (fun k => laws_markInt64SS.l0 k ((List.range i).map (upRow a rows) ++ rows.drop i) (a + (preLen rows i : Int)) (i : Int)) (a + (allLen rows : Int), upRows a rows) := by
  intro d
  induction d with
  | zero =>
   intro i hi
   obtain rfl : i = rows.length := by omega
   refine Ev.step (f := fun _ => some (a + (allLen rows : Int), upRows a rows)) (fun k => ?_) (Ev.now _)
   simp only [laws_markInt64SS.l0]
   rw [if_neg (by simp), List.drop_length, List.append_nil, preLen_end]
   rfl
  | succ d ih =>
   intro i hi
   have hlt : i < rows.length := by omega
   have hp := preLen_succ rows i hlt
   have hp2 := preLen_le rows (i + 1)
   have hrow : rd_L1 ((List.range i).map (upRow a rows) ++ rows.drop i) (i : Int) = rows[i] := by
    rw [rdL_nat _ i (by simp; omega), List.getElem_append_right (by simp)]
    simp
   refine Ev.step (f := fun k => (laws_markInt64S.f k rows[i] (a + (preLen rows i : Int))).bind fun t => laws_markInt64SS.l0 k (((List.range i).map (upRow a rows) ++ rows.drop i).set i t.2) t.1 ((i + 1 : Nat) : Int)) (fun k => ?_) (Ev.bind (markInt64S_ev rows[i] _ (by omega) (by omega)) ?_)
   ·simp only [laws_markInt64SS.l0]
    rw [if_pos (by simp; omega), if_pos (by omega), hrow, wr (by omega) (by omega), Int.toNat_natCast]
    rfl
   ·have e : ((List.range i).map (upRow a rows) ++ rows.drop i).set i (upFrom (a + (preLen rows i : Int)) rows[i].length) = (List.range (i + 1)).map (upRow a rows) ++ rows.drop (i + 1) := by
     rw [List.set_append_right _ _ (by simp), List.length_map, List.length_range, Nat.sub_self, List.drop_eq_getElem_cons hlt, List.set_cons_zero, List.range_succ, List.map_append, List.append_assoc, ← upRow_eq a rows i hlt]
     rfl
    simp only [e]
    rw [show a + (preLen rows i : Int) + (rows[i].length : Int) = a + (preLen rows (i + 1) : Int) by omega]
    exact ih (i + 1) (by omega)
 have := key rows.length 0 (by omega)
 simpa [preLen] using this
theorem heldInt64SS_ev (rows : List (List Int)) (a : Int) (ha : 0 ≤ a ∧ a ≤ 1073741824) (hl : rows.length ≤ 1073741824) (hs : allLen rows ≤ 1073741824) : Ev (fun k => laws_heldInt64SS.f k (upRows a rows) a) (a + (allLen rows : Int)) := by
 unfold laws_heldInt64SS.f
 have key : ∀ d i : Nat, i + d = rows.length → Ev (fun k => laws_heldInt64SS.l0 k (upRows a rows) (a + (preLen rows i : Int)) (i : Int)) (a + (allLen rows : Int)) := by
  intro d
  induction d with
  | zero =>
   intro i hi
   obtain rfl : i = rows.length := by omega
   refine Ev.step (f := fun _ => some (a + (allLen rows : Int))) (fun k => ?_) (Ev.now _)
   simp only [laws_heldInt64SS.l0]
   rw [if_neg (by simp [upRows_length]), preLen_end]
  | succ d ih =>
   intro i hi
   have hlt : i < rows.length := by omega
   have hp := preLen_succ rows i hlt
   have hp2 := preLen_le rows (i + 1)
   have hlt' : i < (upRows a rows).length := by rw [upRows_length]; exact hlt
   have hrow : rd_L1 (upRows a rows) (i : Int) = upFrom (a + (preLen rows i : Int)) rows[i].length := by
    rw [rdL_nat _ i hlt', ← upRow_eq a rows i hlt]
    simp [upRows]
   refine Ev.step (f := fun k => (laws_heldInt64S.f k (upFrom (a + (preLen rows i : Int)) rows[i].length) (a + (preLen rows i : Int))).bind fun t => if t < 0 then some (-1) else laws_heldInt64SS.l0 k (upRows a rows) t ((i + 1 : Nat) : Int)) (fun k => ?_) (Ev.bind (heldInt64S_ev (a + (preLen rows i : Int)) rows[i].length (by omega) (by omega)) ?_)
   ·simp only [laws_heldInt64SS.l0]
    rw [if_pos (by simp [upRows_length]; omega), if_pos (by omega), hrow, wr (by omega) (by omega)]
    rfl
   ·simp only [if_neg (show ¬ (a + (preLen rows i : Int) + (rows[i].length : Int) < 0) by omega)]
    rw [show a + (preLen rows i : Int) + (rows[i].length : Int) = a + (preLen rows (i + 1) : Int) by omega]
    exact ih (i + 1) (by omega)
 have := key rows.length 0 (by omega)
 simpa [preLen] using this
theorem markFamily_ev (p : Int) (rows : List (List Int)) (a : Int) (ha : 0 ≤ a ∧ a ≤ 1073741824) (hl : rows.length ≤ 1073741824) (hs : allLen rows ≤ 1073741824) : Ev (fun k => laws_markFamily.f k p rows a) (a + (allLen rows : Int), upRows a rows) := by
 unfold laws_markFamily.f
 exact markInt64SS_ev rows a ha hl hs
theorem heldFamily_ev (p : Int) (rows : List (List Int)) (a : Int) (ha : 0 ≤ a ∧ a ≤ 1073741824) (hl : rows.length ≤ 1073741824) (hs : allLen rows ≤ 1073741824) : Ev (fun k => laws_heldFamily.f k p (upRows a rows) a) (a + (allLen rows : Int)) := by
 unfold laws_heldFamily.f
 refine Ev.bind (heldInt64SS_ev rows a ha hl hs) ?_
 simp only [if_neg (show ¬ (a + (allLen rows : Int) < 0) by omega)]
 exact Ev.now _
end Go.Proofs.YtijmdlhcidjpmaaDoor.P

namespace Go.Proofs.YtijmdlhcidjpmaaDoor.P
open Go.RowKit Go.Proofs.YtijmdlhcidjpmaaDoorW.PrintWords Go.Proofs.YtijmdlhcidjpmaaDoorW.PrintLast Go.Proofs.YtijmdlhcidjpmaaDoorW.PrintMore
attribute [local go_sem] max2_int min2_int max_two min_two max_three min_three max_four min_four
set_option linter.unusedVariables false
set_option linter.unusedSimpArgs false
theorem eqFamily_same (p : Int) (l : List (List Int)) (hl : l.length ≤ 1048576) (hr : ∀ r ∈ l, r.length ≤ 1048576) : Ev (fun k => laws_eqFamily.f k p l p l) true := by
 unfold laws_eqFamily.f
 simp only [if_true]
 refine Ev.bind (eqInt64SS_same l hl hr) ?_
 simp only [if_true]
 exact Ev.now _
def spec_Decimal.f : Nat → Int → Option (ByteArray)
 | 0, _ => none
 | k + 1, a0 => if a0 ≥ 10 then ((spec_Decimal.f k (wrap64 (Int.tdiv a0 10))).bind fun t113 => ((some (([(wrap64 (48 + (Int.tmod a0 10))) % 256] : List Int) : List Int)).bind fun y114 => (if t113.size + (strOfNums y114).size ≤ 9223372036854775807 then (some (t113 ++ (strOfNums y114))) else (none)))) else (some (strOfNums (([(wrap64 (48 + a0)) % 256] : List Int))))
end Go.Proofs.YtijmdlhcidjpmaaDoor.P

namespace Go.Proofs.YtijmdlhcidjpmaaDoor.P
open Go.RowKit Go.Proofs.YtijmdlhcidjpmaaDoorW.PrintWords Go.Proofs.YtijmdlhcidjpmaaDoorW.PrintLast Go.Proofs.YtijmdlhcidjpmaaDoorW.PrintMore
attribute [local go_sem] max2_int min2_int max_two min_two max_three min_three max_four min_four
set_option linter.unusedVariables false
set_option linter.unusedSimpArgs false
theorem scan2_ev {ρ : Type} {l : Nat → Int → Option ρ} {n : Nat} {q : Nat → Bool} {fin stop : ρ}
  (hgo : ∀ i : Nat, i < n → (∀ j, j < i → q j = true) → q i = true → ∀ r, Ev (fun k => l k ((i + 1 : Nat) : Int)) r → Ev (fun k => l k (i : Int)) r)
  (hstop : ∀ i : Nat, i < n → (∀ j, j < i → q j = true) → q i = false → Ev (fun k => l k (i : Int)) stop)
  (hend : (∀ j, j < n → q j = true) → Ev (fun k => l k (n : Int)) fin) : Ev (fun k => l k 0) (if (List.range n).all q then fin else stop) := by
 have key : ∀ d i : Nat, i + d = n → (∀ j, j < i → q j = true) → Ev (fun k => l k (i : Int)) (if ((List.range n).drop i).all q then fin else stop) := by
  intro d
  induction d with
  | zero =>
   intro i hi hp
   obtain rfl : i = n := by omega
   rw [List.drop_eq_nil_of_le (by simp)]
   exact hend hp
  | succ d ih =>
   intro i hi hp
   rw [List.drop_eq_getElem_cons (by simp; omega), List.getElem_range, List.all_cons]
   cases hq : q i with
   | false => exact hstop i (by omega) hp hq
   | true =>
    rw [Bool.true_and]
    refine hgo i (by omega) hp hq _ (ih (i + 1) (by omega) fun j hj => ?_)
    rcases Nat.lt_succ_iff_lt_or_eq.mp hj with hj | rfl
    ·exact hp j hj
    ·exact hq
 have := key n 0 (by omega) (by omega)
 rw [List.drop_zero] at this
 exact this
theorem stop_ev {ρ : Type} {l : Nat → Int → Option ρ} {n : Nat} {q : Nat → Bool} {stop : ρ}
  (hgo : ∀ i : Nat, i < n → q i = true → ∀ r, Ev (fun k => l k ((i + 1 : Nat) : Int)) r → Ev (fun k => l k (i : Int)) r)
  (hstop : ∀ i : Nat, i < n → q i = false → Ev (fun k => l k (i : Int)) stop)
  (hn : (List.range n).all q = false) : Ev (fun k => l k 0) stop := by
 have key : ∀ d i : Nat, i + d = n → ((List.range n).drop i).all q = false → Ev (fun k => l k (i : Int)) stop := by
  intro d
  induction d with
  | zero =>
   intro i hi h
   rw [List.drop_eq_nil_of_le (by simp; omega)] at h
   simp at h
  | succ d ih =>
   intro i hi h
   rw [List.drop_eq_getElem_cons (by simp; omega), List.getElem_range, List.all_cons] at h
   cases hq : q i with
   | false => exact hstop i (by omega) hq
   | true =>
    rw [hq, Bool.true_and] at h
    exact hgo i (by omega) hq _ (ih (i + 1) (by omega) h)
 exact key n 0 (by omega) (by rwa [List.drop_zero])
def grp (gs : List (List Int)) (i : Nat) : List Int := gs.getD i []
theorem rdL_grp (gs : List (List Int)) (i : Nat) (h : i < gs.length) : rd_L1 gs (i : Int) = grp gs i := by
 rw [rdL_nat gs i h]; simp [grp, h]
theorem grp_len {gs : List (List Int)} {m : Nat} (hr : ∀ r ∈ gs, r.length ≤ m) (i : Nat) : (grp gs i).length ≤ m := by
 unfold grp
 by_cases h : i < gs.length
 ·rw [List.getD_eq_getElem?_getD, List.getElem?_eq_getElem h]; exact hr _ (List.getElem_mem h)
 ·rw [List.getD_eq_getElem?_getD, List.getElem?_eq_none (by omega)]; exact Nat.zero_le _
theorem orI0 : ∀ x : Fin 128, ∀ y : Fin 128, Go.bits .or .i64 (x.val : Int) (y.val : Int) = ((x.val ||| y.val : Nat) : Int) := by decide +kernel
theorem orU0 : ∀ x : Fin 128, ∀ y : Fin 128, Go.bits .or .u64 (x.val : Int) (y.val : Int) = ((x.val ||| y.val : Nat) : Int) := by decide +kernel
theorem andI0 : ∀ x : Fin 128, ∀ y : Fin 128, Go.bits .and .i64 (x.val : Int) (y.val : Int) = ((x.val &&& y.val : Nat) : Int) := by decide +kernel
theorem andU0 : ∀ x : Fin 128, ∀ y : Fin 128, Go.bits .and .u64 (x.val : Int) (y.val : Int) = ((x.val &&& y.val : Nat) : Int) := by decide +kernel
theorem orI {x y : Nat} (hx : x < 128) (hy : y < 128) : Go.bits .or .i64 (x : Int) (y : Int) = ((x ||| y : Nat) : Int) := orI0 ⟨x, hx⟩ ⟨y, hy⟩
theorem orU {x y : Nat} (hx : x < 128) (hy : y < 128) : Go.bits .or .u64 (x : Int) (y : Int) = ((x ||| y : Nat) : Int) := orU0 ⟨x, hx⟩ ⟨y, hy⟩
theorem andI {x y : Nat} (hx : x < 128) (hy : y < 128) : Go.bits .and .i64 (x : Int) (y : Int) = ((x &&& y : Nat) : Int) := andI0 ⟨x, hx⟩ ⟨y, hy⟩
theorem andU {x y : Nat} (hx : x < 128) (hy : y < 128) : Go.bits .and .u64 (x : Int) (y : Int) = ((x &&& y : Nat) : Int) := andU0 ⟨x, hx⟩ ⟨y, hy⟩
theorem shlI0 : ∀ h : Fin 7, shl .i64 1 (IntKind.u64.wrap (h.val : Int)) = ((2 ^ h.val : Nat) : Int) := by decide +kernel
theorem shlU0 : ∀ h : Fin 7, shl .u64 1 (h.val : Int) = ((2 ^ h.val : Nat) : Int) := by decide +kernel
theorem wrapU0 : ∀ h : Fin 8, (0 : Int) ≤ IntKind.u64.wrap (h.val : Int) := by decide +kernel
theorem shlI {h : Int} (h0 : 0 ≤ h ∧ h ≤ 6) : shl .i64 1 (IntKind.u64.wrap h) = ((2 ^ h.toNat : Nat) : Int) := by
 have := shlI0 ⟨h.toNat, by omega⟩
 rwa [show ((⟨h.toNat, by omega⟩ : Fin 7).val : Int) = h from by simp; omega] at this
theorem shlU {h : Int} (h0 : 0 ≤ h ∧ h ≤ 6) : shl .u64 1 h = ((2 ^ h.toNat : Nat) : Int) := by
 have := shlU0 ⟨h.toNat, by omega⟩
 rwa [show ((⟨h.toNat, by omega⟩ : Fin 7).val : Int) = h from by simp; omega] at this
theorem wrapU {h : Int} (h0 : 0 ≤ h ∧ h ≤ 7) : (0 : Int) ≤ IntKind.u64.wrap h := by
 have := wrapU0 ⟨h.toNat, by omega⟩
 rwa [show ((⟨h.toNat, by omega⟩ : Fin 8).val : Int) = h from by simp; omega] at this
def maskN (l : List Int) : Nat := l.foldl (fun m h => m ||| 2 ^ h.toNat) 0
theorem maskN_take (l : List Int) (i : Nat) (h : i < l.length) : maskN (l.take (i + 1)) = maskN (l.take i) ||| 2 ^ l[i].toNat := by
 unfold maskN
 rw [List.take_succ_eq_append_getElem h, List.foldl_append]
 rfl
theorem two_lt {h : Int} (h0 : 0 ≤ h ∧ h ≤ 6) : 2 ^ h.toNat < 128 := by
 have : 2 ^ h.toNat ≤ 2 ^ 6 := Nat.pow_le_pow_right (by omega) (by omega)
 omega
theorem or_lt {x y : Nat} (hx : x < 128) (hy : y < 128) : x ||| y < 128 := Nat.or_lt_two_pow (n := 7) hx hy
theorem mask_lt (l : List Int) (h : ∀ x ∈ l, 0 ≤ x ∧ x ≤ 6) : ∀ m, m < 128 → l.foldl (fun m h => m ||| 2 ^ h.toNat) m < 128 := by
 induction l with
 | nil => exact fun m hm => hm
 | cons a l ih =>
  intro m hm
  exact ih (fun x hx => h x (List.mem_cons_of_mem _ hx)) _ (or_lt hm (two_lt (h a (List.mem_cons_self ..))))
theorem maskN_lt (l : List Int) (h : ∀ x ∈ l, 0 ≤ x ∧ x ≤ 6) : maskN l < 128 := mask_lt l h 0 (by omega)
theorem take_small {l : List Int} (h : ∀ x ∈ l, 0 ≤ x ∧ x ≤ 6) (i : Nat) : ∀ x ∈ l.take i, 0 ≤ x ∧ x ≤ 6 := fun x hx => h x (List.mem_of_mem_take hx)
theorem risesB_mem {lo hi : Int} : ∀ (l : List Int) (o : Option Int), risesB lo hi o l = true → ∀ x ∈ l, lo ≤ x ∧ x ≤ hi
 | [], _, _, x, hx => by simp at hx
 | a :: l, o, h, x, hx => by
  have h1 : (lo ≤ a ∧ a ≤ hi) ∧ risesB lo hi (some a) l = true := by
   cases o <;> simp [risesB] at h <;> simp_all
  rcases List.mem_cons.mp hx with rfl | hx
  ·exact h1.1
  ·exact risesB_mem l (some a) h1.2 x hx
theorem group_small {h : Int} (hh : h ≤ 7) {l : List Int} (hg : groupB h l = true) : ∀ x ∈ l, 0 ≤ x ∧ x ≤ 6 := fun x hx => by
 have := risesB_mem l none hg x hx
 omega
theorem impl_crowdOf_ev (l : List Int) (h : ∀ x ∈ l, 0 ≤ x ∧ x ≤ 6) (hl : l.length ≤ 4611686018427387904) : Ev (fun k => impl_crowdOf.f k l) (maskN l : Int) := by
 unfold impl_crowdOf.f
 have key : ∀ d i : Nat, i + d = l.length → Ev (fun k => impl_crowdOf.l0 k (maskN (l.take i) : Int) l (l.length : Int) (i : Int)) (maskN l : Int) := by
  intro d
  induction d with
  | zero =>
   intro i hi
   refine Ev.step (f := fun _ => some (maskN l : Int)) (fun k => ?_) (Ev.now _)
   simp only [impl_crowdOf.l0]
   rw [if_neg (by omega), List.take_of_length_le (by omega)]
  | succ d ih =>
   intro i hi
   have hlt : i < l.length := by omega
   have hx := h _ (List.getElem_mem hlt)
   refine Ev.step (fun k => ?_) (ih (i + 1) (by omega))
   simp only [impl_crowdOf.l0]
   rw [if_pos (by omega), if_pos (by omega), if_pos (by omega), rd_nat l i hlt, if_pos hx.1, shlU hx, orU (maskN_lt _ (take_small h i)) (two_lt hx), wr (by omega) (by omega), ← maskN_take l i hlt]
   rfl
 exact key l.length 0 (by omega)
theorem spec_l01Bits_ev (l : List Int) (h : ∀ x ∈ l, 0 ≤ x ∧ x ≤ 6) (hl : l.length ≤ 4611686018427387904) : Ev (fun k => spec_l01Bits.f k l) (maskN l : Int) := by
 unfold spec_l01Bits.f
 have key : ∀ d i : Nat, i + d = l.length → Ev (fun k => spec_l01Bits.l0 k l (maskN (l.take i) : Int) (i : Int)) (maskN l : Int) := by
  intro d
  induction d with
  | zero =>
   intro i hi
   refine Ev.step (f := fun _ => some (maskN l : Int)) (fun k => ?_) (Ev.now _)
   simp only [spec_l01Bits.l0]
   rw [if_neg (by omega), List.take_of_length_le (by omega)]
  | succ d ih =>
   intro i hi
   have hlt : i < l.length := by omega
   have hx := h _ (List.getElem_mem hlt)
   refine Ev.step (fun k => ?_) (ih (i + 1) (by omega))
   simp only [spec_l01Bits.l0]
   rw [if_pos (by omega), if_pos (by omega), rd_nat l i hlt, if_pos (wrapU (by omega)), shlI hx, orI (maskN_lt _ (take_small h i)) (two_lt hx), wr (by omega) (by omega), ← maskN_take l i hlt]
   rfl
 exact key l.length 0 (by omega)
def ltB : List Int → List Int → Bool
 | [], [] => false
 | [], _ :: _ => true
 | _ :: _, [] => false
 | x :: a, y :: b => if x = y then ltB a b else decide (x < y)
theorem spec_l01Before_ev (a b : List Int) (ha : a.length ≤ 4611686018427387904) (hb : b.length ≤ 4611686018427387904) : Ev (fun k => spec_l01Before.f k a b) (ltB a b) := by
 unfold spec_l01Before.f
 have key : ∀ d i : Nat, i + d = a.length → i ≤ b.length → Ev (fun k => spec_l01Before.l0 k a b (i : Int)) (ltB (a.drop i) (b.drop i)) := by
  intro d
  induction d with
  | zero =>
   intro i hi hib
   rw [List.drop_eq_nil_of_le (show a.length ≤ i by omega)]
   refine Ev.step (f := fun k => spec_l01Before.j1 k a b (i : Int) false) (fun k => ?_) (Ev.step (f := fun _ => some (decide ((a.length : Int) < (b.length : Int)))) (fun k => ?_) ?_)
   ·simp only [spec_l01Before.l0]
    rw [if_neg (by omega)]
   ·simp only [spec_l01Before.j1]
    rw [if_neg (by decide)]
   ·by_cases hlt : i < b.length
    ·rw [List.drop_eq_getElem_cons hlt, decide_eq_true (by omega)]
     exact Ev.now _
    ·rw [List.drop_eq_nil_of_le (by omega), decide_eq_false (by omega)]
     exact Ev.now _
  | succ d ih =>
   intro i hi hib
   have h1 : i < a.length := by omega
   rw [List.drop_eq_getElem_cons h1]
   by_cases h2 : i < b.length
   ·rw [List.drop_eq_getElem_cons h2]
    refine Ev.step (f := fun k => spec_l01Before.j1 k a b (i : Int) true) (fun k => ?_) ?_
    ·simp only [spec_l01Before.l0]
     rw [if_pos (by omega), decide_eq_true (by omega)]
    ·unfold ltB
     by_cases e : a[i] = b[i]
     ·rw [if_pos e]
      refine Ev.step (fun k => ?_) (ih (i + 1) (by omega) (by omega))
      simp only [spec_l01Before.j1, if_true]
      rw [if_pos (by omega), if_pos (by omega), if_pos (by omega), rd_nat a i h1, rd_nat b i h2, if_pos e, wr (by omega) (by omega)]
      rfl
     ·rw [if_neg e]
      refine Ev.step (f := fun _ => some (decide (a[i] < b[i]))) (fun k => ?_) (Ev.now _)
      simp only [spec_l01Before.j1, if_true]
      rw [if_pos (by omega), if_pos (by omega), if_pos (by omega), rd_nat a i h1, rd_nat b i h2, if_neg e]
   ·rw [List.drop_eq_nil_of_le (show b.length ≤ i by omega)]
    refine Ev.step (f := fun k => spec_l01Before.j1 k a b (i : Int) false) (fun k => ?_) (Ev.step (f := fun _ => some (decide ((a.length : Int) < (b.length : Int)))) (fun k => ?_) ?_)
    ·simp only [spec_l01Before.l0]
     rw [if_pos (by omega), decide_eq_false (by omega)]
    ·simp only [spec_l01Before.j1]
     rw [if_neg (by decide)]
    ·rw [decide_eq_false (by omega)]
     exact Ev.now _
 exact key a.length 0 (by omega) (by omega)
theorem cmp_lt {x y : Int} (h : x < y) : cmp_Compare_int64.f x y = some (-1) := by
 simp [cmp_Compare_int64.f, cmp_isNaN_int64.f, h]
theorem cmp_gt {x y : Int} (h : y < x) : cmp_Compare_int64.f x y = some 1 := by
 simp [cmp_Compare_int64.f, cmp_isNaN_int64.f, h]
 omega
theorem cmp_eq {x y : Int} (h : x = y) : cmp_Compare_int64.f x y = some 0 := by
 simp [cmp_Compare_int64.f, cmp_isNaN_int64.f, h]
theorem sliceCmp_ev (a b : List Int) (ha : a.length ≤ 4611686018427387904) (hb : b.length ≤ 4611686018427387904) : ∃ t : Int, Ev (fun k => slices_Compare_int64_int64.f k a b) t ∧ decide (t ≥ 0) = !ltB a b := by
 have key : ∀ d i : Nat, i + d = a.length → i ≤ b.length → ∃ t : Int, Ev (fun k => slices_Compare_int64_int64.l0 k a b a (a.length : Int) (i : Int)) t ∧ decide (t ≥ 0) = !ltB (a.drop i) (b.drop i) := by
  intro d
  induction d with
  | zero =>
   intro i hi hib
   rw [List.drop_eq_nil_of_le (show a.length ≤ i by omega)]
   by_cases hlt : i < b.length
   ·refine ⟨-1, Ev.step (f := fun _ => some (-1)) (fun k => ?_) (Ev.now _), ?_⟩
    ·simp only [slices_Compare_int64_int64.l0]
     rw [if_neg (by omega), if_pos (by omega)]
    ·rw [List.drop_eq_getElem_cons hlt]; rfl
   ·refine ⟨0, Ev.step (f := fun _ => some 0) (fun k => ?_) (Ev.now _), ?_⟩
    ·simp only [slices_Compare_int64_int64.l0]
     rw [if_neg (by omega), if_neg (by omega)]
    ·rw [List.drop_eq_nil_of_le (by omega)]; rfl
  | succ d ih =>
   intro i hi hib
   have h1 : i < a.length := by omega
   rw [List.drop_eq_getElem_cons h1]
   by_cases h2 : i < b.length
   ·rw [List.drop_eq_getElem_cons h2]
    unfold ltB
    have one : ∀ {t : Int} {f : Nat → Option Int}, (∀ k, (cmp_Compare_int64.f a[i] b[i]).bind (fun t => if t = 0 then slices_Compare_int64_int64.l0 k a b a (a.length : Int) ((i + 1 : Nat) : Int) else some t) = f k) → Ev f t → Ev (fun k => slices_Compare_int64_int64.l0 k a b a (a.length : Int) (i : Int)) t := fun h he => by
     refine Ev.step (fun k => ?_) he
     rw [← h]
     simp only [slices_Compare_int64_int64.l0]
     rw [if_pos (by omega), if_pos (by omega), if_pos (by omega), if_neg (by omega), if_pos (by omega), rd_nat a i h1, rd_nat b i h2, wr (by omega) (by omega)]
     rfl
    by_cases e : a[i] = b[i]
    ·rw [if_pos e]
     obtain ⟨t, ht, hd⟩ := ih (i + 1) (by omega) (by omega)
     refine ⟨t, one (fun k => ?_) ht, hd⟩
     rw [cmp_eq e, Option.bind_some, if_pos rfl]
    ·rw [if_neg e]
     by_cases hlt : a[i] < b[i]
     ·refine ⟨-1, one (f := fun _ => some (-1)) (fun k => ?_) (Ev.now _), ?_⟩
      ·rw [cmp_lt hlt, Option.bind_some, if_neg (by decide)]
      ·rw [decide_eq_true hlt]; rfl
     ·refine ⟨1, one (f := fun _ => some 1) (fun k => ?_) (Ev.now _), ?_⟩
      ·rw [cmp_gt (by omega), Option.bind_some, if_neg (by decide)]
      ·rw [decide_eq_false hlt]; rfl
   ·rw [List.drop_eq_nil_of_le (show b.length ≤ i by omega)]
    refine ⟨1, Ev.step (f := fun _ => some 1) (fun k => ?_) (Ev.now _), rfl⟩
    simp only [slices_Compare_int64_int64.l0]
    rw [if_pos (by omega), if_pos (by omega), if_pos (by omega), if_pos (by omega)]
 exact key a.length 0 (by omega) (by omega)
def okAt (h : Int) (gs : List (List Int)) (i : Nat) : Bool := groupB h (grp gs i) && (decide (i = 0) || ltB (grp gs (i - 1)) (grp gs i))
def withinB (a b : List Int) : Bool := (maskN a &&& maskN b) == maskN a
def pairB (gs : List (List Int)) (i j : Nat) : Bool := !withinB (grp gs i) (grp gs j) && !withinB (grp gs j) (grp gs i)
def famB (h : Int) (gs : List (List Int)) : Bool := decide (1 ≤ h ∧ h ≤ 7) && (List.range gs.length).all fun i => okAt h gs i && (List.range i).all (pairB gs i)
theorem okAt_group {h : Int} {gs : List (List Int)} {i : Nat} (ho : okAt h gs i = true) : groupB h (grp gs i) = true := by
 unfold okAt at ho
 exact (Bool.and_eq_true _ _ ▸ ho).1
theorem spec_l01Within_ev (a b : List Int) (ha : ∀ x ∈ a, 0 ≤ x ∧ x ≤ 6) (hb : ∀ x ∈ b, 0 ≤ x ∧ x ≤ 6) (hla : a.length ≤ 4611686018427387904) (hlb : b.length ≤ 4611686018427387904) : Ev (fun k => spec_l01Within.f k a b) (withinB a b) := by
 unfold spec_l01Within.f
 refine Ev.bind (spec_l01Bits_ev a ha hla) (Ev.bind (spec_l01Bits_ev b hb hlb) ?_)
 rw [andI (maskN_lt a ha) (maskN_lt b hb)]
 rw [show (((maskN a &&& maskN b : Nat) : Int) == (maskN a : Int)) = withinB a b from by
  unfold withinB
  by_cases e : (maskN a &&& maskN b) = maskN a
  ·rw [e]; simp
  ·rw [beq_eq_false_iff_ne.mpr (by omega), beq_eq_false_iff_ne.mpr e]]
 exact Ev.now _
theorem contains_eq (a b : List Int) (ha : ∀ x ∈ a, 0 ≤ x ∧ x ≤ 6) (hb : ∀ x ∈ b, 0 ≤ x ∧ x ≤ 6) : impl_crowd_contains.f (maskN a : Int) (maskN b : Int) = some (withinB b a) := by
 unfold impl_crowd_contains.f
 rw [andU (maskN_lt a ha) (maskN_lt b hb)]
 congr 1
 unfold withinB
 by_cases e : (maskN b &&& maskN a) = maskN b
 ·rw [Nat.and_comm, e]; simp
 ·rw [beq_eq_false_iff_ne.mpr (by rw [Nat.and_comm]; omega), beq_eq_false_iff_ne.mpr e]
theorem impl_ValidFamily_ev (h : Int) (gs : List (List Int)) (hl : gs.length ≤ 4611686018427387904) (hr : ∀ r ∈ gs, r.length ≤ 4611686018427387904) : Ev (fun k => impl_ValidFamily.f k h gs) (famB h gs) := by
 unfold impl_ValidFamily.f famB
 rw [impl_within_eq]
 simp only [Option.bind_some]
 cases hh : decide (1 ≤ h ∧ h ≤ 7) with
 | false => exact Ev.now _
 | true =>
  have hh' := of_decide_eq_true hh
  simp only [if_true, Bool.true_and]
  have inner : ∀ (i : Nat), i < gs.length → (∀ j, j ≤ i → okAt h gs j = true) → ∀ {r : Bool}, ((List.range i).all (pairB gs i) = true → Ev (fun k => impl_ValidFamily.l0 k gs (gs.length : Int) ((i + 1 : Nat) : Int) h gs) r) → Ev (fun k => impl_ValidFamily.j1 k (i : Int) (grp gs i) gs (gs.length : Int) (i : Int) false h gs) (if (List.range i).all (pairB gs i) then r else false) := by
   intro i hi hok r hr'
   have sm : ∀ j, j ≤ i → ∀ x ∈ grp gs j, 0 ≤ x ∧ x ≤ 6 := fun j hj => group_small hh'.2 (okAt_group (hok j hj))
   have hyl : (gs.take i).length = i := by rw [List.length_take]; omega
   refine Ev.step (f := fun k => impl_ValidFamily.l1 k (grp gs i) gs (gs.length : Int) (i : Int) (gs.take i) ((gs.take i).length : Int) 0 h gs) (fun k => ?_) ?_
   ·simp only [impl_ValidFamily.j1]
    rw [if_neg (by decide), if_pos (by omega), if_pos (by omega), Option.bind_some, Int.toNat_natCast]
   ·have one : ∀ j, j < i → Ev (fun k => impl_ValidFamily.l1 (k + 1) (grp gs i) gs (gs.length : Int) (i : Int) (gs.take i) ((gs.take i).length : Int) (j : Int) h gs) = Ev (fun k => (impl_crowdOf.f k (grp gs j)).bind fun t185 => ((impl_crowdOf.f k (grp gs i)).bind fun t186 => ((impl_crowd_contains.f t185 t186).bind fun t187 => (if t187 = true then (some false) else ((impl_crowd_contains.f t186 t185).bind fun t188 => (if t188 = true then (some false) else (impl_ValidFamily.l1 k (grp gs i) gs (gs.length : Int) (i : Int) (gs.take i) ((gs.take i).length : Int) ((j + 1 : Nat) : Int) h gs))))))) := fun j hj => by
     congr 1
     funext k
     simp only [impl_ValidFamily.l1]
     have hrow : rd_L1 (gs.take i) (j : Int) = grp gs j := by
      rw [rdL_nat _ j (by omega), List.getElem_take]
      simp [grp, show j < gs.length by omega]
     rw [if_pos (by omega), if_pos (by omega), if_pos (by omega), hrow, wr (by omega) (by omega)]
     rfl
    have body : ∀ j, j < i → ∀ {f : Nat → Option Bool} {t : Bool}, (∀ k, (if pairB gs i j then impl_ValidFamily.l1 k (grp gs i) gs (gs.length : Int) (i : Int) (gs.take i) ((gs.take i).length : Int) ((j + 1 : Nat) : Int) h gs else some false) = f k) → Ev f t → Ev (fun k => impl_ValidFamily.l1 k (grp gs i) gs (gs.length : Int) (i : Int) (gs.take i) ((gs.take i).length : Int) (j : Int) h gs) t := by
     intro j hj f t hf he
     refine Ev.step (f := fun k => impl_ValidFamily.l1 (k + 1) (grp gs i) gs (gs.length : Int) (i : Int) (gs.take i) ((gs.take i).length : Int) (j : Int) h gs) (fun k => rfl) ?_
     rw [one j hj]
     refine Ev.bind (impl_crowdOf_ev _ (sm j (by omega)) (grp_len hr j)) (Ev.bind (impl_crowdOf_ev _ (sm i (Nat.le_refl i)) (grp_len hr i)) ?_)
     rw [contains_eq _ _ (sm j (by omega)) (sm i (Nat.le_refl i)), contains_eq _ _ (sm i (Nat.le_refl i)) (sm j (by omega))]
     refine Ev.congr (fun k => ?_) he
     rw [← hf k]
     unfold pairB
     cases withinB (grp gs i) (grp gs j) <;> cases withinB (grp gs j) (grp gs i) <;> rfl
    have hgo : ∀ j : Nat, j < i → pairB gs i j = true → ∀ t, Ev (fun k => impl_ValidFamily.l1 k (grp gs i) gs (gs.length : Int) (i : Int) (gs.take i) ((gs.take i).length : Int) ((j + 1 : Nat) : Int) h gs) t → Ev (fun k => impl_ValidFamily.l1 k (grp gs i) gs (gs.length : Int) (i : Int) (gs.take i) ((gs.take i).length : Int) (j : Int) h gs) t := fun j hj hq t ht => body j hj (fun k => by rw [if_pos hq]) ht
    have hstop : ∀ j : Nat, j < i → pairB gs i j = false → Ev (fun k => impl_ValidFamily.l1 k (grp gs i) gs (gs.length : Int) (i : Int) (gs.take i) ((gs.take i).length : Int) (j : Int) h gs) false := fun j hj hq => body j hj (f := fun _ => some false) (fun k => by rw [hq]; rfl) (Ev.now _)
    cases ha : (List.range i).all (pairB gs i) with
    | false => exact stop_ev (l := fun k j => impl_ValidFamily.l1 k (grp gs i) gs (gs.length : Int) (i : Int) (gs.take i) ((gs.take i).length : Int) j h gs) hgo hstop ha
    | true =>
     have := scan_ev (l := fun k j => impl_ValidFamily.l1 k (grp gs i) gs (gs.length : Int) (i : Int) (gs.take i) ((gs.take i).length : Int) j h gs) (fin := r) (stop := false) hgo hstop (by
      refine Ev.step (fun k => ?_) (hr' ha)
      simp only [impl_ValidFamily.l1]
      rw [if_neg (by omega), wr (by omega) (by omega)]
      rfl)
     rwa [ha] at this
  have hs := scan2_ev (l := fun k i => impl_ValidFamily.l0 k gs (gs.length : Int) i h gs) (n := gs.length) (q := fun i => okAt h gs i && (List.range i).all (pairB gs i)) (fin := true) (stop := false)
   (fun i hi hp hq t ht => by
    have hq' := (Bool.and_eq_true _ _ ▸ hq)
    have hok : ∀ j, j ≤ i → okAt h gs j = true := fun j hj => by
     rcases Nat.lt_or_eq_of_le hj with hj | rfl
     ·exact (Bool.and_eq_true _ _ ▸ hp j hj).1
     ·exact hq'.1
    have hin := inner i hi hok (r := t) (fun _ => ht)
    rw [hq'.2, if_pos rfl] at hin
    have hg := okAt_group hq'.1
    refine Ev.step (f := fun k => (impl_isGroup.f k h (grp gs i)).bind fun t => if t = true then (if (i : Int) > 0 then (slices_Compare_int64_int64.f k (grp gs (i - 1)) (grp gs i)).bind fun t => impl_ValidFamily.j1 k (i : Int) (grp gs i) gs (gs.length : Int) (i : Int) (decide (t ≥ 0)) h gs else impl_ValidFamily.j1 k (i : Int) (grp gs i) gs (gs.length : Int) (i : Int) false h gs) else impl_ValidFamily.j1 k (i : Int) (grp gs i) gs (gs.length : Int) (i : Int) true h gs) (fun k => ?_) (Ev.bind (impl_group_ev h (grp gs i) (grp_len hr i) (by omega)) ?_)
    ·simp only [impl_ValidFamily.l0]
     rw [if_pos (by omega), if_pos (by omega), if_pos (by omega), rdL_grp gs i hi]
     by_cases h0 : (i : Int) > 0
     ·simp only [if_pos h0]
      rw [wr (x := (i : Int) - 1) (by omega) (by omega), if_pos (by omega), if_pos (by omega), show ((i : Int) - 1) = ((i - 1 : Nat) : Int) by omega, rdL_grp gs (i - 1) (by omega)]
     ·simp only [if_neg h0]
    ·simp only [hg, if_true]
     by_cases h0 : (i : Int) > 0
     ·simp only [if_pos h0]
      obtain ⟨c, hc, hd⟩ := sliceCmp_ev (grp gs (i - 1)) (grp gs i) (grp_len hr _) (grp_len hr _)
      refine Ev.bind hc ?_
      have : ltB (grp gs (i - 1)) (grp gs i) = true := by
       have h1 := hq'.1
       unfold okAt at h1
       rw [hg, decide_eq_false (show ¬ i = 0 by omega)] at h1
       simpa using h1
      rw [hd, this]
      exact hin
     ·simp only [if_neg h0]
      exact hin)
   (fun i hi hp hq => by
    have bad : Ev (fun k => impl_ValidFamily.j1 k (i : Int) (grp gs i) gs (gs.length : Int) (i : Int) true h gs) false := Ev.step (f := fun _ => some false) (fun k => by simp only [impl_ValidFamily.j1, if_true]) (Ev.now _)
    have pre : ∀ j, j < i → okAt h gs j = true := fun j hj => (Bool.and_eq_true _ _ ▸ hp j hj).1
    refine Ev.step (f := fun k => (impl_isGroup.f k h (grp gs i)).bind fun t => if t = true then (if (i : Int) > 0 then (slices_Compare_int64_int64.f k (grp gs (i - 1)) (grp gs i)).bind fun t => impl_ValidFamily.j1 k (i : Int) (grp gs i) gs (gs.length : Int) (i : Int) (decide (t ≥ 0)) h gs else impl_ValidFamily.j1 k (i : Int) (grp gs i) gs (gs.length : Int) (i : Int) false h gs) else impl_ValidFamily.j1 k (i : Int) (grp gs i) gs (gs.length : Int) (i : Int) true h gs) (fun k => ?_) (Ev.bind (impl_group_ev h (grp gs i) (grp_len hr i) (by omega)) ?_)
    ·simp only [impl_ValidFamily.l0]
     rw [if_pos (by omega), if_pos (by omega), if_pos (by omega), rdL_grp gs i hi]
     by_cases h0 : (i : Int) > 0
     ·simp only [if_pos h0]
      rw [wr (x := (i : Int) - 1) (by omega) (by omega), if_pos (by omega), if_pos (by omega), show ((i : Int) - 1) = ((i - 1 : Nat) : Int) by omega, rdL_grp gs (i - 1) (by omega)]
     ·simp only [if_neg h0]
    ·cases hg : groupB h (grp gs i) with
     | false => simp only [Bool.false_eq_true, if_false]; exact bad
     | true =>
      simp only [if_true]
      have fin : ∀ {b : Bool}, okAt h gs i = !b → Ev (fun k => impl_ValidFamily.j1 k (i : Int) (grp gs i) gs (gs.length : Int) (i : Int) b h gs) false := by
       intro b hb
       cases b with
       | true => exact bad
       | false =>
        have hok : ∀ j, j ≤ i → okAt h gs j = true := fun j hj => by
         rcases Nat.lt_or_eq_of_le hj with hj | rfl
         ·exact pre j hj
         ·exact hb
        have hall : (List.range i).all (pairB gs i) = false := by
         rw [hok i (Nat.le_refl i), Bool.true_and] at hq
         exact hq
        have := inner i hi hok (r := false) (fun h2 => by rw [hall] at h2; exact absurd h2 (by decide))
        rwa [hall] at this
      by_cases h0 : (i : Int) > 0
      ·simp only [if_pos h0]
       obtain ⟨c, hc, hd⟩ := sliceCmp_ev (grp gs (i - 1)) (grp gs i) (grp_len hr _) (grp_len hr _)
       refine Ev.bind hc ?_
       rw [hd]
       refine fin ?_
       unfold okAt
       rw [hg, decide_eq_false (show ¬ i = 0 by omega)]
       simp
      ·simp only [if_neg h0]
       refine fin ?_
       unfold okAt
       rw [hg, decide_eq_true (show i = 0 by omega)]
       rfl)
   (fun _ => Ev.step (f := fun _ => some true) (fun k => by
    simp only [impl_ValidFamily.l0]
    rw [if_neg (by omega)]) (Ev.now _))
  rwa [show (if (List.range gs.length).all (fun i => okAt h gs i && (List.range i).all (pairB gs i)) then true else false) = (List.range gs.length).all (fun i => okAt h gs i && (List.range i).all (pairB gs i)) from by cases (List.range gs.length).all (fun i => okAt h gs i && (List.range i).all (pairB gs i)) <;> rfl] at hs
theorem and2 {a b : Bool} (h : (a && b) = true) : a = true ∧ b = true := by simpa using h
def apartAt (gs : List (List Int)) (i : Nat) : Bool := (List.range gs.length).all fun k => decide (i = k) || !withinB (grp gs i) (grp gs k)
theorem famB_eq (h : Int) (gs : List (List Int)) : famB h gs = (decide (1 ≤ h ∧ h ≤ 7) && ((List.range gs.length).all (okAt h gs) && (List.range gs.length).all (apartAt gs))) := by
 unfold famB
 congr 1
 rw [Bool.eq_iff_iff, Bool.and_eq_true, List.all_eq_true, List.all_eq_true, List.all_eq_true]
 constructor
 ·intro hq
  refine ⟨fun i hi => (Bool.and_eq_true _ _ ▸ hq i hi).1, fun i hi => ?_⟩
  unfold apartAt
  refine List.all_eq_true.mpr fun k hk => ?_
  rcases Nat.lt_trichotomy i k with hlt | rfl | hlt
  ·have := List.all_eq_true.mp (Bool.and_eq_true _ _ ▸ hq k hk).2 i (List.mem_range.mpr hlt)
   unfold pairB at this
   rw [(and2 this).2, Bool.or_true]
  ·rw [decide_eq_true rfl, Bool.true_or]
  ·have := List.all_eq_true.mp (Bool.and_eq_true _ _ ▸ hq i hi).2 k (List.mem_range.mpr hlt)
   unfold pairB at this
   rw [(and2 this).1, Bool.or_true]
 ·rintro ⟨h1, h2⟩ i hi
  rw [h1 i hi, Bool.true_and]
  refine List.all_eq_true.mpr fun j hj => ?_
  have hj' := List.mem_range.mp hj
  have hi' := List.mem_range.mp hi
  have a := h2 i hi
  have b := h2 j (List.mem_range.mpr (by omega))
  unfold apartAt at a b
  have a := List.all_eq_true.mp a j (List.mem_range.mpr (by omega))
  have b := List.all_eq_true.mp b i hi
  rw [decide_eq_false (by omega), Bool.false_or] at a b
  unfold pairB
  rw [a, b]; rfl
theorem spec_l01Ok_ev (h : Int) (gs : List (List Int)) (hl : gs.length ≤ 4611686018427387904) (hr : ∀ r ∈ gs, r.length ≤ 4611686018427387904) : Ev (fun k => spec_l01Ok.f k h gs) (famB h gs) := by
 rw [famB_eq]
 unfold spec_l01Ok.f
 rw [spec_l00In_eq]
 simp only [Option.bind_some]
 cases hh : decide (1 ≤ h ∧ h ≤ 7) with
 | false => exact Ev.now _
 | true =>
  have hh' := of_decide_eq_true hh
  simp only [if_true, Bool.true_and]
  have two : (∀ j, j < gs.length → okAt h gs j = true) → Ev (fun k => spec_l01Ok.l1 k 0 h gs) ((List.range gs.length).all (apartAt gs)) := by
   intro hok
   have sm : ∀ j, j < gs.length → ∀ x ∈ grp gs j, 0 ≤ x ∧ x ≤ 6 := fun j hj => group_small hh'.2 (okAt_group (hok j hj))
   have step : ∀ i j, i < gs.length → j < gs.length → ∀ {f : Nat → Option Bool} {t : Bool}, (∀ k, (if (decide (i = j) || !withinB (grp gs i) (grp gs j)) = true then spec_l01Ok.l2 k (i : Int) ((j + 1 : Nat) : Int) h gs else some false) = f k) → Ev f t → Ev (fun k => spec_l01Ok.l2 k (i : Int) (j : Int) h gs) t := by
    intro i j hi hj f t hf he
    by_cases e : i = j
    ·refine Ev.step (fun k => ?_) he
     rw [← hf k, decide_eq_true e, Bool.true_or, if_pos rfl]
     simp only [spec_l01Ok.l2]
     rw [if_pos (by omega), if_pos (by omega), wr (by omega) (by omega)]
     rfl
    ·refine Ev.step (f := fun k => (spec_l01Within.f k (grp gs i) (grp gs j)).bind fun t => if t = true then some false else spec_l01Ok.l2 k (i : Int) ((j + 1 : Nat) : Int) h gs) (fun k => ?_) (Ev.bind (spec_l01Within_ev _ _ (sm i hi) (sm j hj) (grp_len hr i) (grp_len hr j)) (Ev.congr (fun k => ?_) he))
     ·simp only [spec_l01Ok.l2]
      rw [if_pos (by omega), if_neg (by omega), if_pos (by omega), if_pos (by omega), if_pos (by omega), rdL_grp gs i hi, rdL_grp gs j hj, wr (by omega) (by omega)]
      rfl
     ·rw [← hf k, decide_eq_false e, Bool.false_or]
      cases withinB (grp gs i) (grp gs j) <;> rfl
   have row : ∀ i, i < gs.length → ∀ {r : Bool}, (apartAt gs i = true → Ev (fun k => spec_l01Ok.l1 k ((i + 1 : Nat) : Int) h gs) r) → Ev (fun k => spec_l01Ok.l1 k (i : Int) h gs) (if apartAt gs i then r else false) := by
    intro i hi r hr'
    refine Ev.step (f := fun k => spec_l01Ok.l2 k (i : Int) 0 h gs) (fun k => ?_) ?_
    ·simp only [spec_l01Ok.l1]
     rw [if_pos (by omega)]
    ·have hgo : ∀ j : Nat, j < gs.length → (decide (i = j) || !withinB (grp gs i) (grp gs j)) = true → ∀ t, Ev (fun k => spec_l01Ok.l2 k (i : Int) ((j + 1 : Nat) : Int) h gs) t → Ev (fun k => spec_l01Ok.l2 k (i : Int) (j : Int) h gs) t := fun j hj hq t ht => step i j hi hj (fun k => by rw [if_pos hq]) ht
     have hstop : ∀ j : Nat, j < gs.length → (decide (i = j) || !withinB (grp gs i) (grp gs j)) = false → Ev (fun k => spec_l01Ok.l2 k (i : Int) (j : Int) h gs) false := fun j hj hq => step i j hi hj (f := fun _ => some false) (fun k => by rw [hq]; rfl) (Ev.now _)
     cases ha : apartAt gs i with
     | false => exact stop_ev (l := fun k j => spec_l01Ok.l2 k (i : Int) j h gs) hgo hstop ha
     | true =>
      have := scan_ev (l := fun k j => spec_l01Ok.l2 k (i : Int) j h gs) (fin := r) (stop := false) hgo hstop (by
       refine Ev.step (fun k => ?_) (hr' ha)
       simp only [spec_l01Ok.l2]
       rw [if_neg (by omega), wr (by omega) (by omega)]
       rfl)
      rw [show (List.range gs.length).all (fun k => decide (i = k) || !withinB (grp gs i) (grp gs k)) = true from ha] at this
      exact this
   have hs := scan2_ev (l := fun k i => spec_l01Ok.l1 k i h gs) (n := gs.length) (q := apartAt gs) (fin := true) (stop := false)
    (fun i hi _ hq t ht => by
     have := row i hi (r := t) (fun _ => ht)
     rwa [hq] at this)
    (fun i hi _ hq => by
     have := row i hi (r := false) (fun h2 => by rw [hq] at h2; exact absurd h2 (by decide))
     rwa [hq] at this)
    (fun _ => Ev.step (f := fun _ => some true) (fun k => by
     simp only [spec_l01Ok.l1]
     rw [if_neg (by omega)]) (Ev.now _))
   rwa [show (if (List.range gs.length).all (apartAt gs) then true else false) = (List.range gs.length).all (apartAt gs) from by cases (List.range gs.length).all (apartAt gs) <;> rfl] at hs
  have body : ∀ i, i < gs.length → ∀ {f : Nat → Option Bool} {t : Bool}, (∀ k, (if okAt h gs i = true then spec_l01Ok.l0 k ((i + 1 : Nat) : Int) h gs else some false) = f k) → Ev f t → Ev (fun k => spec_l01Ok.l0 k (i : Int) h gs) t := by
   intro i hi f t hf he
   refine Ev.step (f := fun k => (spec_l01Group.f k h (grp gs i)).bind fun t => if t = true then (if (i : Int) > 0 then (spec_l01Before.f k (grp gs (i - 1)) (grp gs i)).bind fun t => if t = true then spec_l01Ok.l0 k ((i + 1 : Nat) : Int) h gs else some false else spec_l01Ok.l0 k ((i + 1 : Nat) : Int) h gs) else some false) (fun k => ?_) (Ev.bind (spec_group_ev h (grp gs i) (grp_len hr i) (by omega)) ?_)
   ·simp only [spec_l01Ok.l0]
    rw [if_pos (by omega), if_pos (by omega), rdL_grp gs i hi, wr (x := (i : Int) + 1) (by omega) (by omega)]
    by_cases h0 : (i : Int) > 0
    ·simp only [if_pos h0]
     rw [wr (x := (i : Int) - 1) (by omega) (by omega), if_pos (by omega), if_pos (by omega), show ((i : Int) - 1) = ((i - 1 : Nat) : Int) by omega, rdL_grp gs (i - 1) (by omega)]
     rfl
    ·simp only [if_neg h0]
     rfl
   ·cases hg : groupB h (grp gs i) with
    | false =>
     refine Ev.congr (fun k => ?_) he
     rw [← hf k, show okAt h gs i = false from by unfold okAt; rw [hg]; rfl]
     rfl
    | true =>
     simp only [if_true]
     by_cases h0 : (i : Int) > 0
     ·simp only [if_pos h0]
      refine Ev.bind (spec_l01Before_ev _ _ (grp_len hr _) (grp_len hr _)) (Ev.congr (fun k => ?_) he)
      rw [← hf k, show okAt h gs i = ltB (grp gs (i - 1)) (grp gs i) from by unfold okAt; rw [hg, decide_eq_false (show ¬ i = 0 by omega)]; simp]
     ·simp only [if_neg h0]
      refine Ev.congr (fun k => ?_) he
      rw [← hf k, show okAt h gs i = true from by unfold okAt; rw [hg, decide_eq_true (show i = 0 by omega)]; rfl]
      rfl
  have hgo : ∀ j : Nat, j < gs.length → okAt h gs j = true → ∀ t, Ev (fun k => spec_l01Ok.l0 k ((j + 1 : Nat) : Int) h gs) t → Ev (fun k => spec_l01Ok.l0 k (j : Int) h gs) t := fun j hj hq t ht => body j hj (fun k => by rw [if_pos hq]) ht
  have hstop : ∀ j : Nat, j < gs.length → okAt h gs j = false → Ev (fun k => spec_l01Ok.l0 k (j : Int) h gs) false := fun j hj hq => body j hj (f := fun _ => some false) (fun k => by rw [hq]; rfl) (Ev.now _)
  cases ha : (List.range gs.length).all (okAt h gs) with
  | false => exact stop_ev (l := fun k j => spec_l01Ok.l0 k j h gs) hgo hstop ha
  | true =>
   have hok : ∀ j, j < gs.length → okAt h gs j = true := fun j hj => List.all_eq_true.mp ha j (List.mem_range.mpr hj)
   have := scan_ev (l := fun k j => spec_l01Ok.l0 k j h gs) (fin := (List.range gs.length).all (apartAt gs)) (stop := false) hgo hstop (by
    refine Ev.step (fun k => ?_) (two hok)
    simp only [spec_l01Ok.l0]
    rw [if_neg (by omega)])
   rw [ha] at this
   rw [Bool.true_and]
   exact this
theorem fam_groups {h : Int} {gs : List (List Int)} (hf : famB h gs = true) : (1 ≤ h ∧ h ≤ 7) ∧ ∀ i, i < gs.length → ∀ x ∈ grp gs i, 0 ≤ x ∧ x ≤ 6 := by
 unfold famB at hf
 have h1 := and2 hf
 have hh := of_decide_eq_true h1.1
 refine ⟨hh, fun i hi => group_small hh.2 (okAt_group (and2 (List.all_eq_true.mp h1.2 i (List.mem_range.mpr hi))).1)⟩
def decS (n : Int) : ByteArray := (impl_decimal.f n).getD (⟨#[]⟩ : ByteArray)
theorem dec_both : ∀ n : Fin 100, (spec_Decimal.f 3 (n.val : Int)).map (fun b => b.data.toList) = (impl_decimal.f (n.val : Int)).map (fun b => b.data.toList) ∧ (impl_decimal.f (n.val : Int)).isSome = true ∧ ((impl_decimal.f (n.val : Int)).getD (⟨#[]⟩ : ByteArray)).data.toList.length ≤ 2 := by decide +kernel
theorem bytes_ext {a b : ByteArray} (h : a.data.toList = b.data.toList) : a = b := by
 cases a with
 | mk a =>
  cases b with
  | mk b => exact congrArg ByteArray.mk (Array.toList_inj.mp h)
theorem impl_decimal_eq {n : Int} (h0 : 0 ≤ n) (h1 : n < 100) : impl_decimal.f n = some (decS n) := by
 have h := (dec_both ⟨n.toNat, by omega⟩).2.1
 rw [show (((⟨n.toNat, by omega⟩ : Fin 100).val : Nat) : Int) = n from by simp; omega] at h
 unfold decS
 cases e : impl_decimal.f n with
 | none => rw [e] at h; cases h
 | some r => rfl
theorem decS_size {n : Int} (h0 : 0 ≤ n) (h1 : n < 100) : (decS n).size ≤ 2 := by
 have h := (dec_both ⟨n.toNat, by omega⟩).2.2
 rw [show (((⟨n.toNat, by omega⟩ : Fin 100).val : Nat) : Int) = n from by simp; omega] at h
 exact h
theorem strOfNums_size (l : List Int) : (strOfNums l).size = l.length := by simp [strOfNums, ByteArray.size]
theorem groupTextB_size (l : List Int) : (groupTextB l).size ≤ l.length + 1 := by
 unfold groupTextB
 by_cases h : l = []
 ·rw [if_pos h]; exact Nat.succ_le_succ (Nat.zero_le _)
 ·rw [if_neg h, strOfNums_size, letters_length]; omega
theorem risesB_wide {lo hi hi' : Int} (hh : hi ≤ hi') : ∀ (l : List Int) (o : Option Int), risesB lo hi o l = true → risesB lo hi' o l = true
 | [], _, _ => by simp [risesB]
 | a :: l, o, h => by
  cases o with
  | none =>
   simp only [risesB, Bool.and_eq_true, decide_eq_true_eq] at h ⊢
   exact ⟨⟨h.1.1, by omega⟩, risesB_wide hh l _ h.2⟩
  | some y =>
   simp only [risesB, Bool.and_eq_true, decide_eq_true_eq] at h ⊢
   exact ⟨⟨h.1.1, by omega⟩, h.2.1, risesB_wide hh l _ h.2.2⟩
theorem fam_group {h : Int} {gs : List (List Int)} (hf : famB h gs = true) (i : Nat) (hi : i < gs.length) : groupB 7 (grp gs i) = true := by
 have hh := (fam_groups hf).1
 unfold famB at hf
 have h1 := and2 hf
 exact risesB_wide (by omega) _ _ (okAt_group (and2 (List.all_eq_true.mp h1.2 i (List.mem_range.mpr hi))).1)
def famTx (acc : ByteArray) (gs : List (List Int)) : ByteArray := gs.foldl (fun x g => x ++ (groupTextB g ++ (⟨#[10]⟩ : ByteArray))) acc
theorem famTx_take (acc : ByteArray) (gs : List (List Int)) (i : Nat) (h : i < gs.length) : famTx acc (gs.take (i + 1)) = famTx acc (gs.take i) ++ (groupTextB (grp gs i) ++ (⟨#[10]⟩ : ByteArray)) := by
 unfold famTx
 rw [List.take_succ_eq_append_getElem h, List.foldl_append]
 simp [grp, h]
theorem famTx_size (acc : ByteArray) (gs : List (List Int)) (hr : ∀ r ∈ gs, r.length ≤ 1048576) : (famTx acc gs).size ≤ acc.size + gs.length * 1048578 := by
 induction gs generalizing acc with
 | nil => simp [famTx]
 | cons g gs ih =>
  have h1 := ih (acc ++ (groupTextB g ++ (⟨#[10]⟩ : ByteArray))) (fun r h => hr r (List.mem_cons_of_mem _ h))
  have h2 := groupTextB_size g
  have h3 := hr g (List.mem_cons_self ..)
  have h4 : (acc ++ (groupTextB g ++ (⟨#[10]⟩ : ByteArray))).size = acc.size + ((groupTextB g).size + 1) := by simp only [ByteArray.size_append]; rfl
  show (famTx (acc ++ (groupTextB g ++ (⟨#[10]⟩ : ByteArray))) gs).size ≤ _
  rw [List.length_cons, Nat.succ_mul]
  omega
def famHead (h : Int) : ByteArray := (((⟨#[102, 97, 109, 105, 108, 121, 32]⟩ : ByteArray) ++ decS h) ++ (⟨#[10]⟩ : ByteArray))
def famTextB (h : Int) (gs : List (List Int)) : ByteArray := if famB h gs then famTx (famHead h) gs else (⟨#[]⟩ : ByteArray)
theorem famHead_size {h : Int} (hh : 1 ≤ h ∧ h ≤ 7) : (famHead h).size ≤ 10 := by
 have := decS_size (n := h) (by omega) (by omega)
 unfold famHead
 simp only [ByteArray.size_append]
 have e1 : (⟨#[102, 97, 109, 105, 108, 121, 32]⟩ : ByteArray).size = 7 := rfl
 have e2 : (⟨#[10]⟩ : ByteArray).size = 1 := rfl
 omega
theorem step_size {acc : ByteArray} {g : List Int} (ha : acc.size ≤ 4611686018427387904) (hg : g.length ≤ 1048576) : (groupTextB g).size + 1 ≤ 9223372036854775807 ∧ acc.size + (groupTextB g ++ (⟨#[10]⟩ : ByteArray)).size ≤ 9223372036854775807 := by
 have h2 := groupTextB_size g
 have h4 : (groupTextB g ++ (⟨#[10]⟩ : ByteArray)).size = (groupTextB g).size + 1 := by simp only [ByteArray.size_append]; rfl
 omega
theorem head_ifs {α : Type} {h : Int} (hh : 1 ≤ h ∧ h ≤ 7) (x y z : Option α) : (if 7 + (decS h).size ≤ 9223372036854775807 then (if ((⟨#[102, 97, 109, 105, 108, 121, 32]⟩ : ByteArray) ++ decS h).size + 1 ≤ 9223372036854775807 then x else y) else z) = x := by
 have hd := decS_size (n := h) (by omega) (by omega)
 have h4 : ((⟨#[102, 97, 109, 105, 108, 121, 32]⟩ : ByteArray) ++ decS h).size = 7 + (decS h).size := by simp only [ByteArray.size_append]; rfl
 rw [if_pos (by omega), if_pos (by omega)]
theorem mid_size {h : Int} {gs : List (List Int)} (hh : 1 ≤ h ∧ h ≤ 7) (hl : gs.length ≤ 1048576) (hr : ∀ r ∈ gs, r.length ≤ 1048576) (i : Nat) : (famTx (famHead h) (gs.take i)).size ≤ 4611686018427387904 := by
 have h1 := famTx_size (famHead h) (gs.take i) (fun r h => hr r (List.mem_of_mem_take h))
 have h2 := famHead_size hh
 have h3 : (gs.take i).length ≤ 1048576 := by rw [List.length_take]; omega
 have h4 : (gs.take i).length * 1048578 ≤ 1048576 * 1048578 := Nat.mul_le_mul_right _ h3
 omega
theorem impl_FamilyText_ev (h : Int) (gs : List (List Int)) (hl : gs.length ≤ 1048576) (hr : ∀ r ∈ gs, r.length ≤ 1048576) : Ev (fun k => impl_FamilyText.f k h gs) (famTextB h gs) := by
 unfold impl_FamilyText.f famTextB
 refine Ev.bind (impl_ValidFamily_ev h gs (by omega) (fun r hx => Nat.le_trans (hr r hx) (by omega))) ?_
 cases hf : famB h gs with
 | false => exact Ev.now _
 | true =>
  have hh := (fam_groups hf).1
  simp only [if_true, impl_decimal_eq (n := h) (by omega) (by omega), Option.bind_some, head_ifs hh]
  have key : ∀ d i : Nat, i + d = gs.length → Ev (fun k => impl_FamilyText.l0 k (famTx (famHead h) (gs.take i)) gs (gs.length : Int) (i : Int)) (famTx (famHead h) gs) := by
   intro d
   induction d with
   | zero =>
    intro i hi
    rw [List.take_of_length_le (by omega)]
    refine Ev.step (f := fun _ => some (famTx (famHead h) gs)) (fun k => ?_) (Ev.now _)
    simp only [impl_FamilyText.l0]
    rw [if_neg (by omega)]
   | succ d ih =>
    intro i hi
    have hlt : i < gs.length := by omega
    have hn := ih (i + 1) (by omega)
    rw [famTx_take _ _ _ hlt] at hn
    have hs := step_size (acc := famTx (famHead h) (gs.take i)) (g := grp gs i) (mid_size hh hl hr i) (grp_len hr i)
    refine Ev.step (f := fun k => (impl_groupText.f k (grp gs i)).bind fun t => if t.size + 1 ≤ 9223372036854775807 then (if (famTx (famHead h) (gs.take i)).size + (t ++ (⟨#[10]⟩ : ByteArray)).size ≤ 9223372036854775807 then impl_FamilyText.l0 k (famTx (famHead h) (gs.take i) ++ (t ++ (⟨#[10]⟩ : ByteArray))) gs (gs.length : Int) ((i + 1 : Nat) : Int) else none) else none) (fun k => ?_) (Ev.bind (impl_groupText_ev (grp gs i) (grp_len hr i)) ?_)
    ·simp only [impl_FamilyText.l0]
     rw [if_pos (by omega), if_pos (by omega), if_pos (by omega), rdL_grp gs i hlt, wr (by omega) (by omega)]
     rfl
    ·simp only [if_pos hs.1, if_pos hs.2]
     exact hn
  exact key gs.length 0 (by omega)
def cutAt (c : UInt8) : List UInt8 → List (List UInt8)
 | [] => [[]]
 | b :: bs => if b = c then [] :: cutAt c bs else match cutAt c bs with
  | [] => [[b]]
  | p :: ps => (b :: p) :: ps
def glue (c : UInt8) : List (List UInt8) → List UInt8
 | [] => []
 | [p] => p
 | p :: q :: ps => p ++ c :: glue c (q :: ps)
theorem cutAt_ne (c : UInt8) : ∀ l, ∃ p ps, cutAt c l = p :: ps
 | [] => ⟨_, _, rfl⟩
 | b :: bs => by
  obtain ⟨p, ps, e⟩ := cutAt_ne c bs
  simp only [cutAt, e]
  split <;> exact ⟨_, _, rfl⟩
theorem cutAt_word (c : UInt8) : ∀ w : List UInt8, c ∉ w → cutAt c w = [w]
 | [], _ => rfl
 | b :: bs, h => by
  have h1 : b ≠ c := fun e => h (by rw [e]; exact List.mem_cons_self ..)
  simp only [cutAt, if_neg h1, cutAt_word c bs (fun m => h (List.mem_cons_of_mem _ m))]
theorem cutAt_app (c : UInt8) (t : List UInt8) : ∀ w : List UInt8, c ∉ w → cutAt c (w ++ c :: t) = w :: cutAt c t
 | [], _ => by simp [cutAt]
 | b :: bs, h => by
  have h1 : b ≠ c := fun e => h (by rw [e]; exact List.mem_cons_self ..)
  simp only [List.cons_append, cutAt, if_neg h1, cutAt_app c t bs (fun m => h (List.mem_cons_of_mem _ m))]
theorem glue_cutAt (c : UInt8) : ∀ l, glue c (cutAt c l) = l
 | [] => rfl
 | b :: bs => by
  have ih := glue_cutAt c bs
  obtain ⟨p, ps, e⟩ := cutAt_ne c bs
  rw [e] at ih
  simp only [cutAt, e]
  by_cases h : b = c
  ·subst h
   simp only [if_true, glue, List.nil_append]
   rw [ih]
  ·simp only [if_neg h]
   cases ps with
   | nil => simp only [glue] at ih ⊢; rw [ih]
   | cons q qs => simp only [glue, List.cons_append] at ih ⊢; rw [ih]
theorem cutAt_len (c : UInt8) : ∀ l, (cutAt c l).length ≤ l.length + 1
 | [] => Nat.le_refl _
 | b :: bs => by
  have ih := cutAt_len c bs
  obtain ⟨p, ps, e⟩ := cutAt_ne c bs
  simp only [cutAt, e]
  rw [e] at ih
  split <;> simp only [List.length_cons] at ih ⊢ <;> omega
theorem cutAt_short (c : UInt8) : ∀ l, ∀ p ∈ cutAt c l, p.length ≤ l.length
 | [], p, h => by
  simp only [cutAt, List.mem_singleton] at h
  subst h
  exact Nat.le_refl _
 | b :: bs, x, h => by
  have ih := cutAt_short c bs
  obtain ⟨p, ps, e⟩ := cutAt_ne c bs
  simp only [cutAt, e] at h
  rw [e] at ih
  have hp := ih p (List.mem_cons_self ..)
  split at h
  ·rcases List.mem_cons.mp h with rfl | h
   ·simp
   ·have := ih x h
    rw [List.length_cons]
    omega
  ·rcases List.mem_cons.mp h with rfl | h
   ·simp only [List.length_cons]; omega
   ·have := ih x (List.mem_cons_of_mem _ h)
    rw [List.length_cons]
    omega
def mkB (l : List UInt8) : ByteArray := ⟨l.toArray⟩
theorem mkB_data (l : List UInt8) : (mkB l).data.toList = l := rfl
theorem mkB_eta (s : ByteArray) : mkB s.data.toList = s := bytes_ext rfl
theorem mkB_size (l : List UInt8) : (mkB l).size = l.length := by simp [mkB, ByteArray.size]
theorem size_data (s : ByteArray) : s.size = s.data.toList.length := (Array.length_toList).symm
theorem splitK_ev (c : UInt8) : ∀ (n : Nat) (l : List UInt8), l.length ≤ n → Go.Lib.splitK [c] 0 (Go.Lib.count l [c]) l = cutAt c l := by
 intro n
 induction n with
 | zero =>
  intro l h
  have : l = [] := List.length_eq_zero_iff.mp (by omega)
  subst this
  rfl
 | succ n ih =>
  intro l h
  have key : ∀ l : List UInt8, (c ∉ l ∧ Go.Lib.indexByte l c = -1) ∨ ∃ w t, l = w ++ c :: t ∧ c ∉ w ∧ Go.Lib.indexByte l c = (w.length : Int) := by
   intro l
   induction l with
   | nil => exact Or.inl ⟨by simp, rfl⟩
   | cons b bs ih2 =>
    by_cases hb : b = c
    ·subst hb
     exact Or.inr ⟨[], bs, rfl, by simp, by simp [Go.Lib.indexByte]⟩
    ·rcases ih2 with ⟨h1, h2⟩ | ⟨w, t, h1, h2, h3⟩
     ·refine Or.inl ⟨fun m => ?_, ?_⟩
      ·rcases List.mem_cons.mp m with rfl | m
       ·exact hb rfl
       ·exact h1 m
      ·simp [Go.Lib.indexByte, hb, h2]
     ·refine Or.inr ⟨b :: w, t, by rw [h1]; rfl, fun m => ?_, ?_⟩
      ·rcases List.mem_cons.mp m with rfl | m
       ·exact hb rfl
       ·exact h2 m
      ·simp only [Go.Lib.indexByte, h3, List.length_cons]
       have e1 : (b == c) = false := by simpa using hb
       rw [e1]
       simp only [Bool.false_eq_true, if_false]
       rw [if_neg (by simp)]
       push_cast
       rfl
  rcases key l with ⟨h1, h2⟩ | ⟨w, t, h1, h2, h3⟩
  ·have hi : Go.Lib.index l [c] = -1 := by rw [Go.Lib.index_one]; exact h2
   rw [Go.Lib.count_miss hi, cutAt_word c l h1]
   rfl
  ·have hi : Go.Lib.index l [c] = (w.length : Int) := by rw [Go.Lib.index_one]; exact h3
   rw [Go.Lib.count_hit (by simp) hi, Nat.add_comm 1]
   have ht : l.drop (w.length + [c].length) = t := by
    rw [h1, List.length_singleton]
    simp [List.drop_append]
   have hl : t.length ≤ n := by
    have := congrArg List.length h1
    simp only [List.length_append, List.length_cons] at this
    omega
   rw [ht]
   unfold Go.Lib.splitK
   rw [if_neg (by rw [hi]; simp), hi]
   simp only [Int.toNat_natCast, Nat.add_zero]
   rw [ht, ih t hl]
   have hw : l.take w.length = w := by rw [h1]; simp
   rw [hw]
   conv => rhs; rw [h1]
   rw [cutAt_app c t w h2]
theorem splitL_ev (s : ByteArray) (c : UInt8) : splitL s (⟨#[c]⟩ : ByteArray) = (cutAt c s.data.toList).map mkB := by
 have h := Go.Lib.splitB_data (⟨#[c]⟩ : ByteArray) 0 (Go.Lib.countB s (⟨#[c]⟩ : ByteArray)) s
 have h2 : Go.Lib.splitK [c] 0 (Go.Lib.countB s (⟨#[c]⟩ : ByteArray)) s.data.toList = cutAt c s.data.toList := splitK_ev c _ _ (Nat.le_refl _)
 have h3 : (splitL s (⟨#[c]⟩ : ByteArray)).map (·.data.toList) = cutAt c s.data.toList := h.trans h2
 rw [← h3, List.map_map]
 have : (mkB ∘ fun x : ByteArray => x.data.toList) = id := funext fun x => mkB_eta x
 rw [this, List.map_id]
end Go.Proofs.YtijmdlhcidjpmaaDoor.P

namespace Go.Proofs.YtijmdlhcidjpmaaDoor.P
open Go.RowKit Go.Proofs.YtijmdlhcidjpmaaDoorW.PrintWords Go.Proofs.YtijmdlhcidjpmaaDoorW.PrintLast Go.Proofs.YtijmdlhcidjpmaaDoorW.PrintMore
attribute [local go_sem] max2_int min2_int max_two min_two max_three min_three max_four min_four
set_option linter.unusedVariables false
set_option linter.unusedSimpArgs false
theorem bt_list (s : ByteArray) (i : Nat) (h : i < s.size) : ∃ b r, s.data.toList.drop i = b :: r ∧ s.data.toList.drop (i + 1) = r ∧ bt s (i : Int) = (b.toNat : Int) := by
 have hl : i < s.data.toList.length := by rw [← size_data]; exact h
 refine ⟨s.data.toList[i], s.data.toList.drop (i + 1), List.drop_eq_getElem_cons hl, rfl, ?_⟩
 unfold bt
 rw [dif_pos (by simpa using h)]
 rfl
def preC (w : List UInt8) : List (List UInt8) → List (List UInt8)
 | [] => [w]
 | p :: r => (w ++ p) :: r
theorem preC_nil (l : List UInt8) (c : UInt8) : preC [] (cutAt c l) = cutAt c l := by
 obtain ⟨p, ps, e⟩ := cutAt_ne c l
 rw [e]
 rfl
theorem preC_other {b c : UInt8} (h : b ≠ c) (w r : List UInt8) : preC w (cutAt c (b :: r)) = preC (w ++ [b]) (cutAt c r) := by
 obtain ⟨p, ps, e⟩ := cutAt_ne c r
 simp [cutAt, e, h, preC]
theorem take_more (L : List UInt8) (a i : Nat) (b : UInt8) (r : List UInt8) (ha : a ≤ i) (h : L.drop i = b :: r) : (L.drop a).take (i + 1 - a) = (L.drop a).take (i - a) ++ [b] := by
 have e : i + 1 - a = (i - a) + 1 := by omega
 have h2 : (L.drop a).drop (i - a) = b :: r := by rw [List.drop_drop, show a + (i - a) = i by omega]; exact h
 rw [e, List.take_add_one, ← List.head?_drop, h2]
 rfl
theorem spec_l01Split_ev (s : ByteArray) (c : UInt8) (hs : s.size ≤ 1048576) : Ev (fun k => spec_l01Split.f k s (c.toNat : Int)) ((cutAt c s.data.toList).map mkB) := by
 unfold spec_l01Split.f
 have key : ∀ d i a : Nat, ∀ acc : List ByteArray, i + d = s.size → a ≤ i → acc.length ≤ a → Ev (fun k => spec_l01Split.l0 k s (c.toNat : Int) acc (a : Int) (i : Int)) (acc ++ (preC ((s.data.toList.drop a).take (i - a)) (cutAt c (s.data.toList.drop i))).map mkB) := by
  intro d
  induction d with
  | zero =>
   intro i a acc hi ha hacc
   have hend : s.data.toList.drop i = [] := List.drop_eq_nil_of_le (by rw [← size_data]; omega)
   have he : s.extract a s.size = mkB ((s.data.toList.drop a).take (i - a)) := bytes_ext (by rw [Go.Lib.extract_data, mkB_data, show i = s.size by omega])
   refine Ev.step (f := fun _ => some (acc ++ [s.extract a s.size])) (fun k => ?_) (by rw [hend, he]; simp only [cutAt, preC, List.append_nil, List.map_cons, List.map_nil]; exact Ev.now _)
   simp only [spec_l01Split.l0]
   rw [if_neg (by omega), if_pos (by omega), if_pos (by omega), if_pos (by omega)]
   rfl
  | succ d ih =>
   intro i a acc hi ha hacc
   obtain ⟨b, r, h1, h2, h3⟩ := bt_list s i (by omega)
   by_cases e : b = c
   ·subst e
    have he : s.extract a i = mkB ((s.data.toList.drop a).take (i - a)) := bytes_ext (by rw [Go.Lib.extract_data, mkB_data])
    have hn := ih (i + 1) (i + 1) (acc ++ [s.extract a i]) (by omega) (Nat.le_refl _) (by simp; omega)
    rw [Nat.sub_self, List.take_zero, preC_nil, h2, he] at hn
    rw [h1]
    have e2 : acc ++ (preC ((s.data.toList.drop a).take (i - a)) (cutAt b (b :: r))).map mkB = acc ++ [mkB ((s.data.toList.drop a).take (i - a))] ++ (cutAt b r).map mkB := by simp [cutAt, preC]
    rw [e2]
    refine Ev.step (fun k => ?_) hn
    simp only [spec_l01Split.l0]
    rw [if_pos (by omega), if_pos (by omega), if_pos h3, if_pos (by omega), if_pos (by omega), if_pos (by omega), if_pos (by omega), wr (by omega) (by omega), ← he]
    rfl
   ·have hn := ih (i + 1) a acc (by omega) (by omega) hacc
    rw [h2, take_more _ a i b r ha h1, ← preC_other e, ← h1] at hn
    refine Ev.step (fun k => ?_) hn
    simp only [spec_l01Split.l0]
    have hb : ¬ (bt s (i : Int) = (c.toNat : Int)) := by
     rw [h3]
     intro h
     exact e (UInt8.toNat_inj.mp (by omega))
    rw [if_pos (by omega), if_pos (by omega), if_neg hb, wr (by omega) (by omega)]
    rfl
 have := key s.size 0 0 [] (by omega) (Nat.le_refl _) (Nat.le_refl _)
 rw [Nat.sub_self, List.take_zero, preC_nil] at this
 simpa using this
def digV (acc : Nat) (l : List UInt8) : Nat := l.foldl (fun a b => a * 10 + (b.toNat - 48)) acc
def isDig (b : UInt8) : Bool := decide (48 ≤ b.toNat ∧ b.toNat ≤ 57)
def numB (l : List UInt8) : Option Int := if (1 ≤ l.length ∧ l.length ≤ 9) ∧ l.all isDig = true ∧ (l.head? = some 48 → l.length = 1) then some (digV 0 l : Nat) else none
theorem digV_ge : ∀ (l : List UInt8) (acc : Nat), acc ≤ digV acc l
 | [], acc => Nat.le_refl _
 | b :: l, acc => Nat.le_trans (by omega) (digV_ge l (acc * 10 + (b.toNat - 48)))
theorem spec_l01Number_ev (s : ByteArray) (hs : s.size ≤ 1048576) : Ev (fun k => spec_l01Number.f k s) (((numB s.data.toList).getD 0, (numB s.data.toList).isSome)) := by
 have hsz := size_data s
 have bad : Ev (fun k => spec_l01Number.j0 k s true) (0, false) := Ev.step (f := fun _ => some (0, false)) (fun k => by simp only [spec_l01Number.j0, if_true]) (Ev.now _)
 unfold spec_l01Number.f
 by_cases c1 : (s.size : Int) < 1
 ·rw [show numB s.data.toList = none from if_neg (by omega)]
  simp only [if_pos c1]
  exact bad
 simp only [if_neg c1]
 by_cases c2 : (s.size : Int) > 9
 ·rw [show numB s.data.toList = none from if_neg (by omega)]
  simp only [if_pos c2]
  exact bad
 simp only [if_neg c2, if_pos (show 0 < (s.size : Int) by omega)]
 have key : ∀ d i acc : Nat, i + d = s.size → acc < 10 ^ i → Ev (fun k => spec_l01Number.l0 k s (acc : Int) (i : Int)) (if (s.data.toList.drop i).all isDig = true then (((digV acc (s.data.toList.drop i) : Nat) : Int), true) else (0, false)) := by
  intro d
  induction d with
  | zero =>
   intro i acc hi ha
   have hend : s.data.toList.drop i = [] := List.drop_eq_nil_of_le (by omega)
   rw [hend]
   refine Ev.step (f := fun _ => some ((acc : Int), true)) (fun k => ?_) (Ev.now _)
   simp only [spec_l01Number.l0]
   rw [if_neg (by omega)]
  | succ d ih =>
   intro i acc hi ha
   obtain ⟨b, r, h1, h2, h3⟩ := bt_list s i (by omega)
   have hp : 10 ^ (i + 1) ≤ 10 ^ 9 := Nat.pow_le_pow_right (by decide) (by omega)
   rw [Nat.pow_succ] at hp
   by_cases hb : isDig b = true
   ·have hb2 : 48 ≤ b.toNat ∧ b.toNat ≤ 57 := by simpa [isDig] using hb
    have hn := ih (i + 1) (acc * 10 + (b.toNat - 48)) (by omega) (by rw [Nat.pow_succ]; omega)
    rw [h2] at hn
    rw [h1]
    simp only [List.all_cons, hb, Bool.true_and]
    refine Ev.step (fun k => ?_) hn
    simp only [spec_l01Number.l0]
    rw [if_pos (by omega), if_pos (by omega), h3, if_neg (by omega), if_neg (by omega), wr (x := (acc : Int) * 10) (by omega) (by omega), wr (x := (i : Int) + 1) (by omega) (by omega), wr (by omega) (by omega)]
    congr 1
    omega
   ·rw [h1]
    have hb' : isDig b = false := by simpa using hb
    simp only [List.all_cons, hb', Bool.false_and, Bool.false_eq_true, if_false]
    have hb2 : ¬ (48 ≤ b.toNat ∧ b.toNat ≤ 57) := by simpa [isDig] using hb
    refine Ev.step (f := fun _ => some (0, false)) (fun k => ?_) (Ev.now _)
    simp only [spec_l01Number.l0]
    rw [if_pos (by omega), if_pos (by omega), h3]
    by_cases h48 : (b.toNat : Int) < 48
    ·rw [if_pos h48]
    ·rw [if_neg h48, if_pos (by omega)]
 have go := key s.size 0 0 (by omega) (by decide)
 rw [List.drop_zero] at go
 obtain ⟨b, r, h1, h2, h3⟩ := bt_list s 0 (by omega)
 rw [List.drop_zero] at h1
 have h3' : bt s 0 = (b.toNat : Int) := h3
 have run : Ev (fun k => spec_l01Number.j0 k s false) (if s.data.toList.all isDig = true then (((digV 0 s.data.toList : Nat) : Int), true) else (0, false)) := Ev.step (f := fun k => spec_l01Number.l0 k s 0 0) (fun k => by simp only [spec_l01Number.j0]; rw [if_neg (by decide)]) go
 have good : (s.data.toList.head? = some 48 → s.data.toList.length = 1) → Ev (fun k => spec_l01Number.j0 k s false) (((numB s.data.toList).getD 0, (numB s.data.toList).isSome)) := by
  intro hz
  by_cases ha : s.data.toList.all isDig = true
  ·rw [if_pos ha] at run
   rw [show numB s.data.toList = some ((digV 0 s.data.toList : Nat) : Int) from if_pos ⟨⟨by omega, by omega⟩, ha, hz⟩]
   exact run
  ·rw [if_neg ha] at run
   rw [show numB s.data.toList = none from if_neg (fun h => ha h.2.1)]
   exact run
 by_cases c3 : b = 48
 ·have e : bt s 0 = 48 := by rw [h3', c3]; rfl
  simp only [if_pos e]
  by_cases c4 : (s.size : Int) > 1
  ·rw [decide_eq_true c4, show numB s.data.toList = none from if_neg (fun h => by have := h.2.2 (by rw [h1, c3]; rfl); omega)]
   exact bad
  ·rw [decide_eq_false c4]
   exact good (fun _ => by omega)
 ·have e : ¬ bt s 0 = 48 := by
   rw [h3']
   intro h
   exact c3 (UInt8.toNat_inj.mp (by have : (48 : UInt8).toNat = 48 := rfl; omega))
  simp only [if_neg e]
  exact good (fun h => by rw [h1] at h; exact absurd (Option.some.inj h) c3)
end Go.Proofs.YtijmdlhcidjpmaaDoor.P

namespace Go.Proofs.YtijmdlhcidjpmaaDoor.P
open Go.RowKit Go.Proofs.YtijmdlhcidjpmaaDoorW.PrintWords Go.Proofs.YtijmdlhcidjpmaaDoorW.PrintLast Go.Proofs.YtijmdlhcidjpmaaDoorW.PrintMore
attribute [local go_sem] max2_int min2_int max_two min_two max_three min_three max_four min_four
set_option linter.unusedVariables false
set_option linter.unusedSimpArgs false
end Go.Proofs.YtijmdlhcidjpmaaDoor.P

namespace Go.Proofs.YtijmdlhcidjpmaaDoor.P
open Go.RowKit Go.Proofs.YtijmdlhcidjpmaaDoorW.PrintWords Go.Proofs.YtijmdlhcidjpmaaDoorW.PrintLast Go.Proofs.YtijmdlhcidjpmaaDoorW.PrintMore
attribute [local go_sem] max2_int min2_int max_two min_two max_three min_three max_four min_four
set_option linter.unusedVariables false
set_option linter.unusedSimpArgs false
end Go.Proofs.YtijmdlhcidjpmaaDoor.P

namespace Go.Proofs.YtijmdlhcidjpmaaDoor.P
open Go.RowKit Go.Proofs.YtijmdlhcidjpmaaDoorW.PrintWords Go.Proofs.YtijmdlhcidjpmaaDoorW.PrintLast Go.Proofs.YtijmdlhcidjpmaaDoorW.PrintMore
attribute [local go_sem] max2_int min2_int max_two min_two max_three min_three max_four min_four
set_option linter.unusedVariables false
set_option linter.unusedSimpArgs false
end Go.Proofs.YtijmdlhcidjpmaaDoor.P

namespace Go.Proofs.YtijmdlhcidjpmaaDoor.P
open Go.RowKit Go.Proofs.YtijmdlhcidjpmaaDoorW.PrintWords Go.Proofs.YtijmdlhcidjpmaaDoorW.PrintLast Go.Proofs.YtijmdlhcidjpmaaDoorW.PrintMore
attribute [local go_sem] max2_int min2_int max_two min_two max_three min_three max_four min_four
set_option linter.unusedVariables false
set_option linter.unusedSimpArgs false
theorem toList_mkB (l : List UInt8) : (mkB l).toList = l := by rw [ByteArray.toList_eq, mkB_data]
end Go.Proofs.YtijmdlhcidjpmaaDoor.P

namespace Go.Proofs.YtijmdlhcidjpmaaDoor.P
open Go.RowKit Go.Proofs.YtijmdlhcidjpmaaDoorW.PrintWords Go.Proofs.YtijmdlhcidjpmaaDoorW.PrintLast Go.Proofs.YtijmdlhcidjpmaaDoorW.PrintMore
attribute [local go_sem] max2_int min2_int max_two min_two max_three min_three max_four min_four
set_option linter.unusedVariables false
set_option linter.unusedSimpArgs false
end Go.Proofs.YtijmdlhcidjpmaaDoor.P

namespace Go.Proofs.YtijmdlhcidjpmaaDoor.P
open Go.RowKit Go.Proofs.YtijmdlhcidjpmaaDoorW.PrintWords Go.Proofs.YtijmdlhcidjpmaaDoorW.PrintLast Go.Proofs.YtijmdlhcidjpmaaDoorW.PrintMore
attribute [local go_sem] max2_int min2_int max_two min_two max_three min_three max_four min_four
set_option linter.unusedVariables false
set_option linter.unusedSimpArgs false
end Go.Proofs.YtijmdlhcidjpmaaDoor.P

namespace Go.Proofs.YtijmdlhcidjpmaaDoor.P
open Go.RowKit Go.Proofs.YtijmdlhcidjpmaaDoorW.PrintWords Go.Proofs.YtijmdlhcidjpmaaDoorW.PrintLast Go.Proofs.YtijmdlhcidjpmaaDoorW.PrintMore
attribute [local go_sem] max2_int min2_int max_two min_two max_three min_three max_four min_four
set_option linter.unusedVariables false
set_option linter.unusedSimpArgs false
def dig (n : Int) : List UInt8 := (decS n).data.toList
theorem dig_all : ∀ n : Fin 100, numB (dig (n.val : Int)) = some (n.val : Int) ∧ (dig (n.val : Int)).all isDig = true ∧ piB (decS (n.val : Int)) = ((n.val : Int), false) ∧ Go.Lib.itoa (n.val : Int) = dig (n.val : Int) := by decide +kernel
theorem dig_facts {n : Int} (h0 : 0 ≤ n) (h1 : n < 100) : numB (dig n) = some n ∧ (dig n).all isDig = true ∧ piB (decS n) = (n, false) ∧ Go.Lib.itoa n = dig n := by
 have := dig_all ⟨n.toNat, by omega⟩
 rwa [show ((n.toNat : Nat) : Int) = n by omega] at this
theorem dig_one : ∀ b : Fin 10, [UInt8.ofNat (48 + b.val)] = dig (b.val : Int) := by decide +kernel
theorem dig_two : ∀ a b : Fin 10, a.val ≠ 0 → [UInt8.ofNat (48 + a.val), UInt8.ofNat (48 + b.val)] = dig ((a.val * 10 + b.val : Nat) : Int) := by decide +kernel
theorem isDig_of {b : UInt8} (h : isDig b = true) : ∃ n, n < 10 ∧ b.toNat = 48 + n ∧ b = UInt8.ofNat (48 + n) := by
 have : 48 ≤ b.toNat ∧ b.toNat ≤ 57 := by simpa [isDig] using h
 refine ⟨b.toNat - 48, by omega, by omega, ?_⟩
 rw [show 48 + (b.toNat - 48) = b.toNat by omega]
 simp
theorem numB_dig {l : List UInt8} {v : Int} (h : numB l = some v) (hv : v < 100) : l = dig v ∧ 0 ≤ v := by
 unfold numB at h
 split at h
 ·rename_i c
  obtain ⟨⟨c1, c2⟩, c3, c4⟩ := c
  have e := Option.some.inj h
  refine ⟨?_, by omega⟩
  subst e
  rcases l with _ | ⟨a, _ | ⟨b, _ | ⟨d, r⟩⟩⟩
  ·simp at c1
  ·
   simp only [List.all_cons, Bool.and_eq_true] at c3
   obtain ⟨n, h1, h2, h3⟩ := isDig_of c3.1
   have := dig_one ⟨n, h1⟩
   simp only at this
   rw [← h3] at this
   have e9 : digV 0 [a] = n := by simp [digV, h2]
   rw [e9]
   exact this
  ·
   simp only [List.all_cons, Bool.and_eq_true] at c3
   obtain ⟨n, h1, h2, h3⟩ := isDig_of c3.1
   obtain ⟨m, k1, k2, k3⟩ := isDig_of c3.2.1
   have hn : n ≠ 0 := by
    intro e0
    subst e0
    have := c4 (by rw [h3]; rfl)
    simp at this
   have := dig_two ⟨n, h1⟩ ⟨m, k1⟩ hn
   simp only at this
   rw [← h3, ← k3] at this
   have e9 : digV 0 [a, b] = n * 10 + m := by simp [digV, h2, k2]
   rw [e9]
   exact this
  ·
   exfalso
   simp only [List.all_cons, Bool.and_eq_true] at c3
   obtain ⟨n, h1, h2, h3⟩ := isDig_of c3.1
   have hn : n ≠ 0 := by
    intro e0
    subst e0
    have := c4 (by rw [h3]; rfl)
    simp at this
   have := digV_ge r (((0 * 10 + (a.toNat - 48)) * 10 + (b.toNat - 48)) * 10 + (d.toNat - 48))
   have e2 : digV 0 (a :: b :: d :: r) = digV (((0 * 10 + (a.toNat - 48)) * 10 + (b.toNat - 48)) * 10 + (d.toNat - 48)) r := rfl
   rw [e2] at hv
   omega
 ·cases h
theorem dig_no {c : UInt8} (hc : isDig c = false) {n : Int} (h0 : 0 ≤ n) (h1 : n < 100) : c ∉ dig n := by
 intro m
 have := List.all_eq_true.mp (dig_facts h0 h1).2.1 c m
 rw [hc] at this
 cases this
theorem cut_text (h : List UInt8) (ls : List (List UInt8)) (hh : (10 : UInt8) ∉ h) (hl : ∀ l ∈ ls, (10 : UInt8) ∉ l) : cutAt 10 (h ++ 10 :: ls.flatMap (fun l => l ++ [10])) = h :: ls ++ [[]] := by
 induction ls generalizing h with
 | nil => rw [List.flatMap_nil, cutAt_app 10 _ h hh]; rfl
 | cons l ls ih =>
  have e : h ++ 10 :: (l :: ls).flatMap (fun l => l ++ [10]) = h ++ 10 :: (l ++ 10 :: ls.flatMap (fun l => l ++ [10])) := by simp
  rw [e, cutAt_app 10 _ h hh, ih l (hl l (List.mem_cons_self ..)) (fun x hx => hl x (List.mem_cons_of_mem _ hx))]
  rfl
theorem glue_text (h : List UInt8) (ls : List (List UInt8)) : glue 10 (h :: ls ++ [[]]) = h ++ 10 :: ls.flatMap (fun l => l ++ [10]) := by
 induction ls generalizing h with
 | nil => simp [glue]
 | cons l ls ih =>
  have := ih l
  simp only [List.cons_append, glue, List.flatMap_cons, List.append_assoc, List.singleton_append, List.nil_append] at this ⊢
  rw [this]
end Go.Proofs.YtijmdlhcidjpmaaDoor.P

namespace Go.Proofs.YtijmdlhcidjpmaaDoor.P
open Go.RowKit Go.Proofs.YtijmdlhcidjpmaaDoorW.PrintWords Go.Proofs.YtijmdlhcidjpmaaDoorW.PrintLast Go.Proofs.YtijmdlhcidjpmaaDoorW.PrintMore
attribute [local go_sem] max2_int min2_int max_two min_two max_three min_three max_four min_four
set_option linter.unusedVariables false
set_option linter.unusedSimpArgs false
theorem beq_dec (a b : List UInt8) : (a == b) = decide (a = b) := by by_cases h : a = b <;> simp [h]
def famW : List UInt8 := [102, 97, 109, 105, 108, 121, 32]
def grpOf (l : List UInt8) : List Int := l.map fun b => (b.toNat : Int) - 65
def grpB (l : List UInt8) : List Int × Bool := if l = [45] then ([], true) else (grpOf l, decide (0 < l.length) && groupB 7 (grpOf l))
theorem rises_mem {lo hi : Int} : ∀ (l : List Int) (o : Option Int), risesB lo hi o l = true → ∀ x ∈ l, lo ≤ x ∧ x ≤ hi
 | [], _, _ => fun x hx => by cases hx
 | a :: l, o, h => by
  have h2 : (lo ≤ a ∧ a ≤ hi) ∧ ∃ o', risesB lo hi o' l = true := by
   cases o with
   | none =>
    simp only [risesB, Bool.and_eq_true, decide_eq_true_eq] at h
    exact ⟨h.1, _, h.2⟩
   | some y =>
    simp only [risesB, Bool.and_eq_true, decide_eq_true_eq] at h
    exact ⟨h.1, _, h.2.2⟩
  obtain ⟨h3, o', h4⟩ := h2
  intro x hx
  rcases List.mem_cons.mp hx with rfl | hx
  ·exact h3
  ·exact rises_mem l o' h4 x hx
def gtL (g : List Int) : List UInt8 := (groupTextB g).data.toList
theorem gtL_cons {g : List Int} (h : g ≠ []) : gtL g = g.map fun x => UInt8.ofNat ((wrap64 (65 + x)) % 256).toNat := by
 unfold gtL groupTextB
 rw [if_neg h]
 simp [strOfNums, letters]
theorem let_one : ∀ n : Fin 7, (((UInt8.ofNat ((wrap64 (65 + (n.val : Int))) % 256).toNat).toNat : Int) - 65 = (n.val : Int)) ∧ UInt8.ofNat ((wrap64 (65 + (n.val : Int))) % 256).toNat ≠ 10 ∧ UInt8.ofNat ((wrap64 (65 + (n.val : Int))) % 256).toNat ≠ 45 := by decide +kernel
theorem let_facts {x : Int} (h : 0 ≤ x ∧ x ≤ 7 - 1) : (((UInt8.ofNat ((wrap64 (65 + x)) % 256).toNat).toNat : Int) - 65 = x) ∧ UInt8.ofNat ((wrap64 (65 + x)) % 256).toNat ≠ 10 ∧ UInt8.ofNat ((wrap64 (65 + x)) % 256).toNat ≠ 45 := by
 have := let_one ⟨x.toNat, by omega⟩
 rwa [show (((⟨x.toNat, by omega⟩ : Fin 7).val : Nat) : Int) = x from by simp; omega] at this
theorem let_back (b : UInt8) : UInt8.ofNat ((wrap64 (65 + ((b.toNat : Int) - 65))) % 256).toNat = b := by
 have hb := b.toNat_lt
 rw [show (65 : Int) + ((b.toNat : Int) - 65) = (b.toNat : Int) by omega, wr (by omega) (by omega), show ((b.toNat : Int) % 256).toNat = b.toNat by omega]
 simp
theorem gtL_back {l : List UInt8} (h : l ≠ []) : gtL (grpOf l) = l := by
 rw [gtL_cons (by unfold grpOf; simpa using h)]
 unfold grpOf
 rw [List.map_map]
 conv => rhs; rw [← List.map_id l]
 exact List.map_congr_left (fun b _ => let_back b)
theorem grpOf_gtL {g : List Int} (h : g ≠ []) (hg : groupB 7 g = true) : grpOf (gtL g) = g := by
 rw [gtL_cons h]
 unfold grpOf
 rw [List.map_map]
 conv => rhs; rw [← List.map_id g]
 exact List.map_congr_left (fun x hx => (let_facts (rises_mem g none hg x hx)).1)
theorem gtL_no {g : List Int} (hg : groupB 7 g = true) : (10 : UInt8) ∉ gtL g := by
 by_cases h : g = []
 ·subst h; decide
 ·rw [gtL_cons h]
  intro m
  obtain ⟨x, hx, e⟩ := List.mem_map.mp m
  exact (let_facts (rises_mem g none hg x hx)).2.1 e
theorem grpB_text {g : List Int} (hg : groupB 7 g = true) : grpB (gtL g) = (g, true) := by
 by_cases h : g = []
 ·subst h; rfl
 ·have hne : gtL g ≠ [] := by rw [gtL_cons h]; simpa using h
  have h45 : gtL g ≠ [45] := by
   intro e
   have m : (45 : UInt8) ∈ gtL g := by rw [e]; exact List.mem_singleton.mpr rfl
   rw [gtL_cons h] at m
   obtain ⟨x, hx, e2⟩ := List.mem_map.mp m
   exact (let_facts (rises_mem g none hg x hx)).2.2 e2
  unfold grpB
  rw [if_neg h45, grpOf_gtL h hg, hg, decide_eq_true (List.length_pos_iff.mpr hne)]
  rfl
theorem grpB_sound {l : List UInt8} (h : (grpB l).2 = true) : l = gtL (grpB l).1 := by
 unfold grpB at h ⊢
 by_cases c : l = [45]
 ·rw [if_pos c]
  exact c
 ·rw [if_neg c] at h ⊢
  simp only [Bool.and_eq_true, decide_eq_true_eq] at h
  exact (gtL_back (List.length_pos_iff.mp h.1)).symm
theorem read_loop_byte {b : UInt8} : wrap64 (wrap64 (b.toNat : Int) - 65) = (b.toNat : Int) - 65 := by
 have hb := b.toNat_lt
 rw [wr (x := (b.toNat : Int)) (by omega) (by omega), wr (by omega) (by omega)]
theorem spec_l01Read_ev (s : ByteArray) (hs : s.size ≤ 1048576) : Ev (fun k => spec_l01Read.f k s) (grpB s.data.toList) := by
 have hsz := size_data s
 unfold spec_l01Read.f grpB
 simp only [Option.bind_some, ByteArray.toList_eq]
 by_cases c : s.data.toList = [45]
 ·simp only [if_pos c]
  exact Ev.now _
 simp only [if_neg c]
 have key : ∀ d i : Nat, i + d = s.size → Ev (fun k => spec_l01Read.l0 k s (grpOf (s.data.toList.take i)) (i : Int)) (grpOf s.data.toList, decide (0 < s.data.toList.length) && groupB 7 (grpOf s.data.toList)) := by
  intro d
  induction d with
  | zero =>
   intro i hi
   rw [List.take_of_length_le (by omega)]
   by_cases c2 : (s.size : Int) > 0
   ·rw [decide_eq_true (show 0 < s.data.toList.length by omega), Bool.true_and]
    refine Ev.step (f := fun k => (spec_l01Group.f k 7 (grpOf s.data.toList)).bind fun t487 => (some (grpOf s.data.toList, t487))) (fun k => ?_) (Ev.bind (spec_group_ev 7 _ (by unfold grpOf; rw [List.length_map]; omega) (by omega)) (Ev.now _))
    simp only [spec_l01Read.l0]
    rw [if_neg (by omega), if_pos c2]
   ·rw [decide_eq_false (show ¬ 0 < s.data.toList.length by omega), Bool.false_and]
    refine Ev.step (f := fun _ => some (grpOf s.data.toList, false)) (fun k => ?_) (Ev.now _)
    simp only [spec_l01Read.l0]
    rw [if_neg (by omega), if_neg c2]
  | succ d ih =>
   intro i hi
   obtain ⟨b, r, h1, h2, h3⟩ := bt_list s i (by omega)
   have hn := ih (i + 1) (by omega)
   have ht : grpOf (s.data.toList.take (i + 1)) = grpOf (s.data.toList.take i) ++ [(b.toNat : Int) - 65] := by
    have := take_more s.data.toList 0 i b r (Nat.zero_le _) h1
    simp only [List.drop_zero, Nat.sub_zero] at this
    rw [this]
    unfold grpOf
    rw [List.map_append]
    rfl
   rw [ht] at hn
   refine Ev.step (fun k => ?_) hn
   simp only [spec_l01Read.l0]
   rw [if_pos (by omega), if_pos (by omega), if_pos (by unfold grpOf; rw [List.length_map, List.length_take]; omega), h3, read_loop_byte, wr (by omega) (by omega)]
   rfl
 have := key s.size 0 (by omega)
 rwa [List.take_zero] at this
theorem impl_readGroup_ev (s : ByteArray) (hs : s.size ≤ 1048576) : Ev (fun k => impl_readGroup.f k s) (grpB s.data.toList) := by
 have hsz := size_data s
 unfold impl_readGroup.f
 have key : ∀ d i : Nat, i + d = s.size → Ev (fun k => impl_readGroup.l0 k s (grpOf (s.data.toList.take i)) (s.size : Int) (i : Int)) (grpB s.data.toList) := by
  intro d
  induction d with
  | zero =>
   intro i hi
   rw [List.take_of_length_le (by omega)]
   have hlen : (grpOf s.data.toList).length = s.size := by unfold grpOf; rw [List.length_map]; omega
   refine Ev.step (f := fun k => (if s.data.toList = ([45] : List UInt8) then ((impl_isGroup.f k 7 []).bind fun t520 => (if t520 = true then ((impl_groupText.f k []).bind fun t521 => (some ([], (t521.data.toList == s.data.toList)))) else (some ([], false)))) else ((impl_isGroup.f k 7 (grpOf s.data.toList)).bind fun t522 => (if t522 = true then ((impl_groupText.f k (grpOf s.data.toList)).bind fun t523 => (some (grpOf s.data.toList, (t523.data.toList == s.data.toList)))) else (some (grpOf s.data.toList, false)))))) (fun k => ?_) ?_
   ·simp only [impl_readGroup.l0, ByteArray.toList_eq]
    rw [if_neg (by omega), if_pos (show (0 : Int) ≤ ((grpOf s.data.toList).length : Int) by omega)]
    rfl
   ·unfold grpB
    by_cases c : s.data.toList = [45]
    ·simp only [if_pos c]
     refine Ev.bind (impl_group_ev 7 [] (by simp) (by omega)) ?_
     rw [show groupB 7 [] = true from rfl]
     simp only [if_true]
     refine Ev.bind (impl_groupText_ev [] (by simp)) ?_
     rw [c]
     exact Ev.now _
    ·simp only [if_neg c]
     refine Ev.bind (impl_group_ev 7 _ (by omega) (by omega)) ?_
     cases hg : groupB 7 (grpOf s.data.toList) with
     | false =>
      simp only [Bool.false_eq_true, if_false, Bool.and_false]
      exact Ev.now _
     | true =>
      simp only [if_true, Bool.and_true]
      refine Ev.bind (impl_groupText_ev _ (by omega)) ?_
      have e : ((groupTextB (grpOf s.data.toList)).data.toList == s.data.toList) = decide (0 < s.data.toList.length) := by
       rw [beq_dec]
       by_cases hne : s.data.toList = []
       ·rw [hne]; rfl
       ·show decide (gtL (grpOf s.data.toList) = s.data.toList) = _
        rw [decide_eq_true (gtL_back hne), decide_eq_true (List.length_pos_iff.mpr hne)]
      rw [e]
      exact Ev.now _
  | succ d ih =>
   intro i hi
   obtain ⟨b, r, h1, h2, h3⟩ := bt_list s i (by omega)
   have hn := ih (i + 1) (by omega)
   have ht : grpOf (s.data.toList.take (i + 1)) = grpOf (s.data.toList.take i) ++ [(b.toNat : Int) - 65] := by
    have := take_more s.data.toList 0 i b r (Nat.zero_le _) h1
    simp only [List.drop_zero, Nat.sub_zero] at this
    rw [this]
    unfold grpOf
    rw [List.map_append]
    rfl
   rw [ht] at hn
   refine Ev.step (fun k => ?_) hn
   simp only [impl_readGroup.l0]
   rw [if_pos (by omega), if_pos (by omega), if_pos (by omega), if_pos (by unfold grpOf; rw [List.length_map, List.length_take]; omega), h3, read_loop_byte, wr (by omega) (by omega)]
   rfl
 have := key s.size 0 (by omega)
 rwa [List.take_zero] at this
def badF : Int × List (List Int) × Int := (0, [], 5)
def allG (ls : List (List UInt8)) : Bool := ls.all fun l => (grpB l).2
def gsOf (ls : List (List UInt8)) : List (List Int) := ls.map fun l => (grpB l).1
def readFB (LS : List (List UInt8)) : Int × List (List Int) × Int := match LS with
 | [] => badF
 | h :: ls => if ls.getLast? = some [] ∧ h.take 7 = famW then (match numB (h.drop 7) with
  | some n => if allG ls.dropLast = true then (if famB n (gsOf ls.dropLast) then (n, gsOf ls.dropLast, 0) else badF) else badF
  | none => badF) else badF
theorem gsOf_len (ls : List (List UInt8)) : (gsOf ls).length = ls.length := by simp [gsOf]
theorem grpB_len (l : List UInt8) : (grpB l).1.length ≤ l.length := by
 unfold grpB
 split
 ·exact Nat.zero_le _
 ·unfold grpOf; rw [List.length_map]; exact Nat.le_refl _
theorem gsOf_short {ls : List (List UInt8)} {n : Nat} (hl : ∀ l ∈ ls, l.length ≤ n) : ∀ r ∈ gsOf ls, r.length ≤ n := by
 intro r hr
 obtain ⟨l, h1, h2⟩ := List.mem_map.mp hr
 rw [← h2]
 exact Nat.le_trans (grpB_len l) (hl l h1)
theorem gsOf_take (ls : List (List UInt8)) (i : Nat) (h : i < ls.length) : gsOf (ls.take (i + 1)) = gsOf (ls.take i) ++ [(grpB ls[i]).1] := by
 unfold gsOf
 rw [List.take_succ_eq_append_getElem h, List.map_append]
 rfl
theorem spec_famrows_ev (h : List UInt8) (ls : List (List UInt8)) (z : List UInt8) (n : Int) (ok : Bool) (hn : ls.length ≤ 1048576) (hl : ∀ l ∈ ls, l.length ≤ 1048576) :
  Ev (fun k => spec_ReadFamily.l0 k ((h :: ls ++ [z]).map mkB) ok 1 n []) (if (ok && allG ls) = true then (if famB n (gsOf ls) then (n, gsOf ls, 0) else badF) else badF) := by
 have key : ∀ d i : Nat, ∀ b : Bool, i + d = ls.length → Ev (fun k => spec_ReadFamily.l0 k ((h :: ls ++ [z]).map mkB) b ((i + 1 : Nat) : Int) n (gsOf (ls.take i))) (if (b && allG (ls.drop i)) = true then (if famB n (gsOf ls) then (n, gsOf ls, 0) else badF) else badF) := by
  intro d
  induction d with
  | zero =>
   intro i b hi
   rw [List.drop_eq_nil_of_le (by omega), List.take_of_length_le (by omega), show allG [] = true from rfl, Bool.and_true]
   refine Ev.step (f := fun k => if b = true then ((spec_l01Ok.f k n (gsOf ls)).bind fun t510 => (if t510 = true then (some (n, gsOf ls, 0)) else (some (0, ([] : List (List Int)), 5)))) else (some (0, ([] : List (List Int)), 5))) (fun k => ?_) ?_
   ·simp only [spec_ReadFamily.l0]
    rw [if_neg (by rw [wr (by omega) (by omega)]; simp; omega)]
   ·cases b with
    | false => exact Ev.now _
    | true =>
     simp only [if_true]
     refine Ev.bind (spec_l01Ok_ev n (gsOf ls) (by rw [gsOf_len]; omega) (fun r hr => Nat.le_trans (gsOf_short hl r hr) (by omega))) ?_
     cases famB n (gsOf ls) with
     | true => exact Ev.now _
     | false => exact Ev.now _
  | succ d ih =>
   intro i b hi
   have hlt : i < ls.length := by omega
   have hx : rdOf ByteArray.empty ((h :: ls ++ [z]).map mkB) ((i + 1 : Nat) : Int) = mkB ls[i] := by
    unfold rdOf
    simp [List.getElem?_append, hlt]
   have hr := spec_l01Read_ev (mkB ls[i]) (by rw [mkB_size]; exact hl _ (List.getElem_mem hlt))
   rw [mkB_data] at hr
   have hlen : (gsOf (ls.take i)).length < 5864062014805 := by rw [gsOf_len, List.length_take]; omega
   refine Ev.step (f := fun k => (spec_l01Read.f k (mkB ls[i])).bind fun bt500 => (if b = true then (if (gsOf (ls.take i)).length < 5864062014805 then (spec_ReadFamily.l0 k ((h :: ls ++ [z]).map mkB) bt500.2 ((i + 1 + 1 : Nat) : Int) n (gsOf (ls.take i) ++ [bt500.1])) else (none)) else (if (gsOf (ls.take i)).length < 5864062014805 then (spec_ReadFamily.l0 k ((h :: ls ++ [z]).map mkB) false ((i + 1 + 1 : Nat) : Int) n (gsOf (ls.take i) ++ [bt500.1])) else (none)))) (fun k => ?_) (Ev.bind hr ?_)
   ·simp only [spec_ReadFamily.l0]
    rw [if_pos (by rw [wr (by omega) (by omega)]; simp; omega), if_pos (by omega), if_pos (by simp; omega), hx, wr (by omega) (by omega)]
    rfl
   ·simp only [if_pos hlen, ← gsOf_take ls i hlt]
    rw [List.drop_eq_getElem_cons hlt, show allG (ls[i] :: ls.drop (i + 1)) = ((grpB ls[i]).2 && allG (ls.drop (i + 1))) from rfl]
    cases b with
    | true =>
     simp only [if_true, Bool.true_and]
     exact ih (i + 1) _ (by omega)
    | false =>
     have := ih (i + 1) false (by omega)
     simp only [Bool.false_and, Bool.false_eq_true, if_false] at this ⊢
     exact this
 have := key ls.length 0 ok (by omega)
 rwa [List.drop_zero, List.take_zero] at this
theorem spec_ReadFamily_ev (a0 : ByteArray) (hs : ¬ (a0.size : Int) > 4000) : Ev (fun k => spec_ReadFamily.f k a0) (readFB (cutAt 10 a0.data.toList)) := by
 have hsz := size_data a0
 unfold spec_ReadFamily.f
 simp only [if_neg hs]
 refine Ev.bind (spec_l01Split_ev a0 10 (by omega)) ?_
 have hlen := cutAt_len 10 a0.data.toList
 have hsh := cutAt_short 10 a0.data.toList
 obtain ⟨h, ls, e⟩ := cutAt_ne 10 a0.data.toList
 rw [e] at hlen hsh ⊢
 have hx : rdOf ByteArray.empty ((h :: ls).map mkB) 0 = mkB h := rfl
 have h0 : (0 : Int) < (((h :: ls).map mkB).length : Int) := by simp
 have bad : Ev (fun k => spec_ReadFamily.j0 k ((h :: ls).map mkB) true) badF := Ev.step (f := fun _ => some badF) (fun k => by simp only [spec_ReadFamily.j0, if_true]; rfl) (Ev.now _)
 have hll : ((h :: ls).map mkB).length = ls.length + 1 := by simp
 rw [List.length_cons] at hlen
 simp only [hx, if_pos h0, mkB_size]
 rcases List.eq_nil_or_concat ls with rfl | ⟨ms, z, rfl⟩
 ·simp only [if_pos (show (((([h] : List (List UInt8)).map mkB).length : Nat) : Int) < 2 by simp)]
  rw [show readFB [h] = badF by simp [readFB]]
  exact bad
 ·have hl2 : (ms.concat z).length = ms.length + 1 := by simp
  rw [hl2] at hlen hll
  simp only [hll, wr (x := ((ms.length + 1 + 1 : Nat) : Int) - 1) (by omega) (by omega), if_neg (show ¬ (((ms.length + 1 + 1 : Nat) : Int) < 2) by omega), if_pos (show (0 : Int) ≤ ((ms.length + 1 + 1 : Nat) : Int) - 1 by omega), if_pos (show ((ms.length + 1 + 1 : Nat) : Int) - 1 < ((ms.length + 1 + 1 : Nat) : Int) by omega)]
  have hz : (rdOf ByteArray.empty ((h :: ms.concat z).map mkB) (((ms.length + 1 + 1 : Nat) : Int) - 1)).toList = z := by
   rw [show ((ms.length + 1 + 1 : Nat) : Int) - 1 = ((ms.length + 1 : Nat) : Int) by omega]
   unfold rdOf
   simp [toList_mkB]
  rw [hz]
  by_cases ez : z = []
  ·subst ez
   simp only [if_true]
   by_cases c7 : (h.length : Int) < 7
   ·simp only [if_pos c7]
    rw [show readFB (h :: ms.concat []) = badF by
     simp only [readFB]
     rw [if_neg (fun hh => by
      have := congrArg List.length hh.2
      rw [List.length_take, show famW.length = 7 from rfl] at this
      omega)]]
    exact bad
   ·simp only [if_neg c7, if_pos (show (7 : Int) ≤ (h.length : Int) by omega), if_pos (show (0 : Nat) ≤ 7 by decide)]
    have ht : ((mkB h).extract 0 7).toList = h.take 7 := by rw [ByteArray.toList_eq, Go.Lib.extract_data, mkB_data]; rfl
    rw [ht]
    by_cases cf : h.take 7 = famW
    ·rw [cf]
     have hrd : readFB (h :: ms.concat []) = (match numB (h.drop 7) with | some n => if allG ms = true then (if famB n (gsOf ms) then (n, gsOf ms, 0) else badF) else badF | none => badF) := by
      unfold readFB
      simp [cf]
     rw [hrd]
     have hd : (mkB h).extract 7 h.length = mkB (h.drop 7) := bytes_ext (by
      rw [Go.Lib.extract_data, mkB_data, mkB_data]
      exact List.take_of_length_le (by rw [List.length_drop]; omega))
     have hn := spec_l01Number_ev (mkB (h.drop 7)) (by rw [mkB_size, List.length_drop]; have := hsh h (List.mem_cons_self ..); omega)
     rw [mkB_data] at hn
     refine Ev.step (f := fun k => (spec_l01Number.f k (mkB (h.drop 7))).bind fun bt496 => (spec_ReadFamily.l0 k ((h :: ms.concat []).map mkB) bt496.2 1 bt496.1 ([] : List (List Int)))) (fun k => ?_) (Ev.bind hn ?_)
     ·simp only [spec_ReadFamily.j0]
      rw [if_neg (by decide), if_pos (by rw [hll]; omega), hx, mkB_size, if_pos (by omega), hd]
     ·have hr := spec_famrows_ev h ms [] ((numB (h.drop 7)).getD 0) (numB (h.drop 7)).isSome (by omega) (fun l hl => by have := hsh l (by simp [hl]); omega)
      rw [show h :: ms ++ [[]] = h :: ms.concat [] by simp] at hr
      cases en : numB (h.drop 7) with
      | none =>
       rw [en] at hr
       simpa using hr
      | some n =>
       rw [en] at hr
       simpa using hr
    ·rw [show readFB (h :: ms.concat []) = badF by
      simp only [readFB]
      rw [if_neg (fun hh => cf hh.2)]]
     rw [show (h.take 7 != ([102, 97, 109, 105, 108, 121, 32] : List UInt8)) = true from (by simpa using cf : (h.take 7 != famW) = true)]
     exact bad
  ·simp only [if_neg ez]
   rw [show readFB (h :: ms.concat z) = badF by
    simp only [readFB]
    rw [if_neg (fun hh => ez (by simpa using hh.1))]]
   exact bad
def famL (n : Int) (gs : List (List Int)) : List UInt8 := famW ++ dig n ++ 10 :: gs.flatMap (fun g => gtL g ++ [10])
theorem fam_data (n : Int) (gs : List (List Int)) : (famTx (famHead n) gs).data.toList = famL n gs := by
 have key : ∀ (gs : List (List Int)) (acc : ByteArray), (famTx acc gs).data.toList = acc.data.toList ++ gs.flatMap (fun g => gtL g ++ [10]) := by
  intro gs
  induction gs with
  | nil => intro acc; simp [famTx]
  | cons g gs ih =>
   intro acc
   have e : famTx acc (g :: gs) = famTx (acc ++ (groupTextB g ++ (⟨#[10]⟩ : ByteArray))) gs := rfl
   rw [e, ih]
   have e2 : (acc ++ (groupTextB g ++ (⟨#[10]⟩ : ByteArray))).data.toList = acc.data.toList ++ (gtL g ++ [10]) := by simp [gtL]
   rw [e2, List.flatMap_cons, List.append_assoc]
 rw [key]
 simp [famHead, famL, famW, dig]
theorem fam_valid {n : Int} {gs : List (List Int)} (h : famB n gs = true) : (0 ≤ n ∧ n < 100) ∧ gs.length ≤ gs.length ∧ ∀ g ∈ gs, groupB 7 g = true := by
 have := (fam_groups h).1
 refine ⟨by omega, Nat.le_refl _, fun g hg => ?_⟩
 obtain ⟨i, hi, rfl⟩ := List.getElem_of_mem hg
 have h2 := fam_group h i hi
 have e : grp gs i = gs[i] := by simp [grp, hi]
 rwa [e] at h2
theorem cut_family {n : Int} {gs : List (List Int)} (h : famB n gs = true) : cutAt 10 (famL n gs) = (famW ++ dig n) :: gs.map gtL ++ [[]] := by
 obtain ⟨h1, _, h2⟩ := fam_valid h
 have e : famL n gs = (famW ++ dig n) ++ 10 :: (gs.map gtL).flatMap (fun l => l ++ [10]) := by
  unfold famL
  rw [List.flatMap_map]
 rw [e, cut_text _ _ (fun m => by
  rcases List.mem_append.mp m with m | m
  ·exact absurd m (by decide)
  ·exact dig_no (by decide) h1.1 h1.2 m) (fun l hl => by
  obtain ⟨g, hg, rfl⟩ := List.mem_map.mp hl
  exact gtL_no (h2 g hg))]
theorem gs_text {gs : List (List Int)} (h : ∀ g ∈ gs, groupB 7 g = true) : gsOf (gs.map gtL) = gs ∧ allG (gs.map gtL) = true := by
 induction gs with
 | nil => exact ⟨rfl, rfl⟩
 | cons g gs ih =>
  obtain ⟨h1, h2⟩ := ih (fun x hx => h x (List.mem_cons_of_mem _ hx))
  have hg := grpB_text (h g (List.mem_cons_self ..))
  unfold gsOf allG at *
  simp only [List.map_cons, List.all_cons, hg, h1, h2, Bool.and_self, and_self]
theorem gs_sound {ls : List (List UInt8)} (h : allG ls = true) : ls = (gsOf ls).map gtL := by
 induction ls with
 | nil => rfl
 | cons l ls ih =>
  unfold allG gsOf at *
  simp only [List.all_cons, Bool.and_eq_true] at h
  simp only [List.map_cons]
  rw [← grpB_sound h.1, ← ih h.2]
theorem readFB_text {n : Int} {gs : List (List Int)} (h : famB n gs = true) : readFB (cutAt 10 (famL n gs)) = (n, gs, 0) := by
 obtain ⟨h1, _, h2⟩ := fam_valid h
 rw [cut_family h]
 obtain ⟨e1, e2⟩ := gs_text h2
 have e3 : (gs.map gtL ++ [[]]).getLast? = some [] := by simp
 have e4 : (famW ++ dig n).take 7 = famW := by
  rw [show (7 : Nat) = famW.length from rfl, List.take_left']
  rfl
 have e5 : (famW ++ dig n).drop 7 = dig n := by
  rw [show (7 : Nat) = famW.length from rfl, List.drop_left']
  rfl
 simp only [readFB, List.cons_append, e3, e4, e5, and_self, if_true, (dig_facts h1.1 h1.2).1, List.dropLast_concat, e1, e2, h]
theorem readFB_sound (L : List UInt8) : readFB (cutAt 10 L) = badF ∨ ∃ n gs, readFB (cutAt 10 L) = (n, gs, 0) ∧ famB n gs = true ∧ famL n gs = L := by
 have hg := glue_cutAt 10 L
 obtain ⟨h, ls, e⟩ := cutAt_ne 10 L
 rw [e] at hg ⊢
 unfold readFB
 simp only
 split
 ·rename_i c
  obtain ⟨hz, hf⟩ := c
  split
  ·rename_i n hv
   split
   ·rename_i ha
    split
    ·rename_i hval
     refine Or.inr ⟨n, _, rfl, hval, ?_⟩
     have h1 := (fam_valid hval).1
     have e1 := (numB_dig hv h1.2).1
     have e2 := gs_sound ha
     have e3 : ls = ls.dropLast ++ [[]] := by
      rcases List.eq_nil_or_concat ls with rfl | ⟨ms, z, rfl⟩
      ·simp at hz
      ·simp at hz
       simp [hz]
     have e4 : h = famW ++ dig n := by rw [← hf, ← e1, List.take_append_drop]
     rw [← hg, e3, e4, ← List.cons_append, glue_text]
     unfold famL
     rw [List.dropLast_concat]
     conv => rhs; rw [e2]
     rw [List.flatMap_map]
    ·exact Or.inl rfl
   ·exact Or.inl rfl
  ·exact Or.inl rfl
 ·exact Or.inl rfl
def readGF (LS : List (List UInt8)) (a0 : ByteArray) : Int × List (List Int) × Int := match LS with
 | [] => badF
 | h :: ls => if (h.take 7 = famW ∧ ls ≠ []) ∧ (piB (mkB (h.drop 7))).2 = false then (if allG ls.dropLast = true then (if (famTextB (piB (mkB (h.drop 7))).1 (gsOf ls.dropLast)).data.toList = a0.data.toList then ((piB (mkB (h.drop 7))).1, gsOf ls.dropLast, 0) else badF) else badF) else badF
theorem impl_famrows_ev (a0 : ByteArray) (ls : List (List UInt8)) (n : Int) (hn : ls.length ≤ 5000) (hl : ∀ l ∈ ls, l.length ≤ 5000) :
  Ev (fun k => impl_ReadFamily.l0 k a0 (ls.map mkB) ((ls.map mkB).length : Int) 0 n []) (if allG ls = true then (if (famTextB n (gsOf ls)).data.toList = a0.data.toList then (n, gsOf ls, 0) else badF) else badF) := by
 have key : ∀ d i : Nat, i + d = ls.length → Ev (fun k => impl_ReadFamily.l0 k a0 (ls.map mkB) ((ls.map mkB).length : Int) (i : Int) n (gsOf (ls.take i))) (if allG (ls.drop i) = true then (if (famTextB n (gsOf ls)).data.toList = a0.data.toList then (n, gsOf ls, 0) else badF) else badF) := by
  intro d
  induction d with
  | zero =>
   intro i hi
   rw [List.drop_eq_nil_of_le (by omega), List.take_of_length_le (by omega), if_pos (show allG [] = true from rfl)]
   refine Ev.step (f := fun k => (impl_FamilyText.f k n (gsOf ls)).bind fun t605 => (if t605.toList = a0.toList then (some (n, gsOf ls, 0)) else (some (0, ([] : List (List Int)), 5)))) (fun k => ?_) (Ev.bind (impl_FamilyText_ev n (gsOf ls) (by rw [gsOf_len]; omega) (fun r hr => Nat.le_trans (gsOf_short hl r hr) (by omega))) ?_)
   ·simp only [impl_ReadFamily.l0]
    rw [if_neg (by rw [List.length_map]; omega)]
   ·simp only [ByteArray.toList_eq]
    by_cases c2 : (famTextB n (gsOf ls)).data.toList = a0.data.toList
    ·simp only [if_pos c2]
     exact Ev.now _
    ·simp only [if_neg c2]
     exact Ev.now _
  | succ d ih =>
   intro i hi
   have hlt : i < ls.length := by omega
   have hx : rdOf ByteArray.empty (ls.map mkB) (i : Int) = mkB ls[i] := by simp [rdOf, hlt]
   have hr := impl_readGroup_ev (mkB ls[i]) (by rw [mkB_size]; have := hl _ (List.getElem_mem hlt); omega)
   rw [mkB_data] at hr
   have hlen : (gsOf (ls.take i)).length < 5864062014805 := by rw [gsOf_len, List.length_take]; omega
   refine Ev.step (f := fun k => (impl_readGroup.f k (mkB ls[i])).bind fun bt598 => (if bt598.2 = true then (if (gsOf (ls.take i)).length < 5864062014805 then (impl_ReadFamily.l0 k a0 (ls.map mkB) ((ls.map mkB).length : Int) ((i + 1 : Nat) : Int) n (gsOf (ls.take i) ++ [bt598.1])) else (none)) else (some badF))) (fun k => ?_) (Ev.bind hr ?_)
   ·simp only [impl_ReadFamily.l0]
    rw [if_pos (by rw [List.length_map]; omega), if_pos (by omega), if_pos (by rw [List.length_map]; omega), hx, wr (by omega) (by omega)]
    rfl
   ·rw [List.drop_eq_getElem_cons hlt, show allG (ls[i] :: ls.drop (i + 1)) = ((grpB ls[i]).2 && allG (ls.drop (i + 1))) from rfl]
    simp only [if_pos hlen, ← gsOf_take ls i hlt]
    cases (grpB ls[i]).2 with
    | true =>
     simp only [if_true, Bool.true_and]
     exact ih (i + 1) (by omega)
    | false =>
     simp only [Bool.false_and, Bool.false_eq_true, if_false]
     exact Ev.now _
 have := key ls.length 0 (by omega)
 rwa [List.drop_zero, List.take_zero] at this
theorem cutPre_eq (h : List UInt8) : strings_CutPrefix.f (mkB h) (⟨#[102, 97, 109, 105, 108, 121, 32]⟩ : ByteArray) = some (if h.take 7 = famW then (mkB (h.drop 7), true) else (mkB h, false)) := by
 have hw : (⟨#[102, 97, 109, 105, 108, 121, 32]⟩ : ByteArray).size = 7 := rfl
 unfold strings_CutPrefix.f stringslite_CutPrefix.f stringslite_HasPrefix.f
 rw [hw, mkB_size]
 by_cases c : (h.length : Int) ≥ ((7 : Nat) : Int)
 ·have ht : ((mkB h).extract 0 ((7 : Nat) : Int).toNat).toList = h.take 7 := by rw [ByteArray.toList_eq, Go.Lib.extract_data, mkB_data]; rfl
  have hd : (mkB h).extract ((7 : Nat) : Int).toNat h.length = mkB (h.drop 7) := bytes_ext (by
   rw [Go.Lib.extract_data, mkB_data, mkB_data]
   exact List.take_of_length_le (by rw [List.length_drop]; exact Nat.le_refl _))
  rw [if_pos c, if_pos (by omega), if_pos (by omega), ht, hd, show (⟨#[102, 97, 109, 105, 108, 121, 32]⟩ : ByteArray).toList = famW by rw [ByteArray.toList_eq]; rfl, beq_dec]
  by_cases cf : h.take 7 = famW
  ·rw [decide_eq_true cf, if_pos cf]
   simp only [Option.bind_some, if_true]
   rw [if_pos (by omega), if_pos (by omega)]
   rfl
  ·rw [decide_eq_false cf, if_neg cf]
   rfl
 ·have hn : ¬ h.take 7 = famW := fun hh => by
   have := congrArg List.length hh
   rw [List.length_take, show famW.length = 7 from rfl] at this
   omega
  rw [if_neg c]
  simp only [Option.bind_some, Bool.false_eq_true, if_false, if_neg hn]
theorem impl_ReadFamily_ev (a0 : ByteArray) (hs : ¬ (a0.size : Int) > 4000) : Ev (fun k => impl_ReadFamily.f k a0) (readGF (cutAt 10 a0.data.toList) a0) := by
 have hsz := size_data a0
 unfold impl_ReadFamily.f
 simp only [if_neg hs]
 have hsp : strings_Split.f a0 (⟨#[10]⟩ : ByteArray) = some ((cutAt 10 a0.data.toList).map mkB) := by
  unfold strings_Split.f
  rw [if_pos ⟨by omega, by decide⟩, splitL_ev]
 rw [hsp]
 have hlen := cutAt_len 10 a0.data.toList
 have hsh := cutAt_short 10 a0.data.toList
 obtain ⟨h, ls, e⟩ := cutAt_ne 10 a0.data.toList
 rw [e] at hlen hsh ⊢
 have hx : rdOf ByteArray.empty ((h :: ls).map mkB) 0 = mkB h := rfl
 have h0 : (0 : Int) < (((h :: ls).map mkB).length : Int) := by simp
 have bad : ∀ n, Ev (fun k => impl_ReadFamily.j0 k a0 ((h :: ls).map mkB) n true) badF := fun n => Ev.step (f := fun _ => some badF) (fun k => by simp only [impl_ReadFamily.j0, if_true]; rfl) (Ev.now _)
 rw [List.length_cons] at hlen
 have hh := hsh h (List.mem_cons_self ..)
 simp only [Option.bind_some, hx, if_pos h0, cutPre_eq]
 by_cases cf : h.take 7 = famW
 ·have hpi : strconv_ParseInt_70.f (mkB (h.drop 7)) 10 64 = some (piB (mkB (h.drop 7))) := if_pos ⟨⟨rfl, rfl⟩, by rw [mkB_size, List.length_drop]; omega⟩
  simp only [if_pos cf, hpi, Option.bind_some, if_true]
  cases hb : (piB (mkB (h.drop 7))).2 with
  | true =>
   simp only [if_true]
   rw [show readGF (h :: ls) a0 = badF by
    simp only [readGF]
    rw [if_neg (fun q => by rw [hb] at q; cases q.2)]]
   exact bad _
  | false =>
   simp only [Bool.false_eq_true, if_false]
   cases ls with
   | nil =>
    rw [show decide (((([h] : List (List UInt8)).map mkB).length : Int) < 2) = true from rfl]
    rw [show readGF [h] a0 = badF by simp [readGF]]
    exact bad _
   | cons l ls =>
    have hL : (((h :: l :: ls).map mkB).length : Int) = (ls.length : Int) + 2 := by simp; omega
    have hrun := impl_famrows_ev a0 (l :: ls).dropLast (piB (mkB (h.drop 7))).1 (by rw [List.length_dropLast]; omega) (fun x hx2 => by have := hsh x (List.mem_cons_of_mem _ ((List.dropLast_sublist _).subset hx2)); omega)
    rw [show readGF (h :: l :: ls) a0 = (if allG (l :: ls).dropLast = true then (if (famTextB (piB (mkB (h.drop 7))).1 (gsOf (l :: ls).dropLast)).data.toList = a0.data.toList then ((piB (mkB (h.drop 7))).1, gsOf (l :: ls).dropLast, 0) else badF) else badF) by
     simp only [readGF]
     rw [if_pos ⟨⟨cf, by simp⟩, hb⟩]]
    rw [decide_eq_false (show ¬ (((h :: l :: ls).map mkB).length : Int) < 2 by rw [hL]; omega)]
    refine Ev.step (fun k => ?_) hrun
    simp only [impl_ReadFamily.j0]
    have hm : wrap64 ((((h :: l :: ls).map mkB).length : Int) - 1) = ((ls.length + 1 : Nat) : Int) := by
     rw [hL, wr (by omega) (by rw [List.length_cons] at hlen; omega)]
     omega
    rw [if_neg (by decide), hm, if_pos (by omega), if_pos (by rw [hL]; omega)]
    have ht : ((((h :: l :: ls).map mkB).take (((ls.length + 1 : Nat) : Int)).toNat).drop 1) = (l :: ls).dropLast.map mkB := by
     rw [Int.toNat_natCast, List.map_cons, List.take_succ_cons, List.drop_succ_cons, List.drop_zero, List.dropLast_eq_take, List.map_take]
     rfl
    rw [ht]
    rfl
 ·have hpi : strconv_ParseInt_70.f (mkB h) 10 64 = some (piB (mkB h)) := if_pos ⟨⟨rfl, rfl⟩, by rw [mkB_size]; omega⟩
  simp only [if_neg cf, hpi, Option.bind_some, Bool.false_eq_true, if_false]
  rw [show readGF (h :: ls) a0 = badF by
   simp only [readGF]
   rw [if_neg (fun q => cf q.1.1)]]
  exact bad _
theorem readGF_text {n : Int} {gs : List (List Int)} (h : famB n gs = true) : readGF (cutAt 10 (famL n gs)) (famTx (famHead n) gs) = (n, gs, 0) := by
 obtain ⟨h1, _, h2⟩ := fam_valid h
 rw [cut_family h]
 obtain ⟨e1, e2⟩ := gs_text h2
 have e4 : (famW ++ dig n).take 7 = famW := by
  rw [show (7 : Nat) = famW.length from rfl, List.take_left']
  rfl
 have e5 : (famW ++ dig n).drop 7 = dig n := by
  rw [show (7 : Nat) = famW.length from rfl, List.drop_left']
  rfl
 have e6 : piB (mkB (dig n)) = (n, false) := by
  have : mkB (dig n) = decS n := mkB_eta _
  rw [this]
  exact (dig_facts h1.1 h1.2).2.2.1
 have e7 : famTextB n gs = famTx (famHead n) gs := if_pos h
 simp only [readGF, List.cons_append, e4, e5, e6, List.dropLast_concat, e1, e2, e7, if_true]
 rw [if_pos ⟨⟨trivial, by simp⟩, trivial⟩]
theorem readGF_sound (a0 : ByteArray) : readGF (cutAt 10 a0.data.toList) a0 = badF ∨ ∃ n gs, readGF (cutAt 10 a0.data.toList) a0 = (n, gs, 0) ∧ famB n gs = true ∧ famTx (famHead n) gs = a0 := by
 obtain ⟨h, ls, e⟩ := cutAt_ne 10 a0.data.toList
 rw [e]
 simp only [readGF]
 split
 ·rename_i c
  split
  ·split
   ·rename_i ht
    cases hval : famB (piB (mkB (h.drop 7))).1 (gsOf ls.dropLast) with
    | true =>
     refine Or.inr ⟨_, _, rfl, hval, bytes_ext ?_⟩
     rw [← ht]
     unfold famTextB
     rw [if_pos hval]
    | false =>
     exfalso
     unfold famTextB at ht
     rw [hval] at ht
     have h0 : a0.data.toList = [] := ht.symm
     rw [h0] at e
     have e1 : ([] : List UInt8) = h := (List.cons.inj e).1
     subst e1
     exact absurd c.1.1 (by decide)
   ·exact Or.inl rfl
  ·exact Or.inl rfl
 ·exact Or.inl rfl
theorem readF_both (a0 : ByteArray) : readGF (cutAt 10 a0.data.toList) a0 = readFB (cutAt 10 a0.data.toList) ∧ (readFB (cutAt 10 a0.data.toList) = badF ∨ ∃ n gs, readFB (cutAt 10 a0.data.toList) = (n, gs, 0) ∧ famB n gs = true ∧ famL n gs = a0.data.toList) := by
 have key : ∀ n gs, famB n gs = true → famL n gs = a0.data.toList → readGF (cutAt 10 a0.data.toList) a0 = readFB (cutAt 10 a0.data.toList) ∧ readFB (cutAt 10 a0.data.toList) = (n, gs, 0) := by
  intro n gs hv ht
  have e : famTx (famHead n) gs = a0 := bytes_ext (by rw [fam_data]; exact ht)
  have h1 := readGF_text hv
  have h2 := readFB_text hv
  rw [ht] at h1 h2
  rw [e] at h1
  exact ⟨h1.trans h2.symm, h2⟩
 rcases readFB_sound a0.data.toList with h | ⟨n, gs, h, hv, ht⟩
 ·rcases readGF_sound a0 with h2 | ⟨n, gs, h2, hv, ht⟩
  ·exact ⟨h2.trans h.symm, Or.inl h⟩
  ·have ht2 : famL n gs = a0.data.toList := by rw [← fam_data, ht]
   have := key n gs hv ht2
   exact ⟨this.1, Or.inr ⟨n, gs, this.2, hv, ht2⟩⟩
 ·have := key n gs hv ht
  exact ⟨this.1, Or.inr ⟨n, gs, this.2, hv, ht⟩⟩
theorem famL_len (n : Int) (gs : List (List Int)) : gs.length + allLen gs ≤ (famL n gs).length + gs.length ∧ gs.length ≤ (famL n gs).length := by
 have hg : ∀ g : List Int, g.length ≤ (gtL g).length := by
  intro g
  by_cases h : g = []
  ·subst h; exact Nat.zero_le _
  ·rw [gtL_cons h, List.length_map]; exact Nat.le_refl _
 have : ∀ gs : List (List Int), allLen gs ≤ (gs.flatMap (fun g => gtL g ++ [10])).length ∧ gs.length ≤ (gs.flatMap (fun g => gtL g ++ [10])).length := by
  intro gs
  induction gs with
  | nil => exact ⟨by simp [allLen], Nat.le_refl _⟩
  | cons g gs ih =>
   have := hg g
   unfold allLen at *
   simp only [List.flatMap_cons, List.length_append, List.map_cons, List.sum_cons, List.length_cons, List.length_nil] at *
   omega
 have h2 := this gs
 unfold famL
 rw [List.length_append, List.length_cons]
 omega
end Go.Proofs.YtijmdlhcidjpmaaDoor.P

/- For every text the program's ReadFamily and the reference's read alike, and the result is memory of its own. -/
namespace Go.Proofs.YtijmdlhcidjpmaaDoor.Pure
open Go.RowKit Go.Proofs.YtijmdlhcidjpmaaDoor.P Go.Proofs.YtijmdlhcidjpmaaDoorW.PrintWords Go.Proofs.YtijmdlhcidjpmaaDoorW.PrintLast Go.Proofs.YtijmdlhcidjpmaaDoorW.PrintMore
set_option linter.unusedVariables false
set_option linter.unusedSimpArgs false
theorem FnExactReadFamily : laws_FnExactReadFamily.Pure := by
 intro a0 hx
 by_cases h : (a0.size : Int) ≤ 1048576
 ·have both : ∃ r1 r2 r3, Ev (fun k => spec_ReadFamily.f k a0) (r1, r2, r3) ∧ Ev (fun k => impl_ReadFamily.f k a0) (r1, r2, r3) ∧ r2.length ≤ 4000 ∧ allLen r2 ≤ 4000 := by
   by_cases hs : (a0.size : Int) > 4000
   ·refine ⟨0, [], 2, ?_, ?_, by simp, by simp [allLen]⟩
    ·unfold spec_ReadFamily.f
     simp only [if_pos hs]
     exact Ev.now _
    ·unfold impl_ReadFamily.f
     simp only [if_pos hs]
     exact Ev.now _
   ·have e1 := spec_ReadFamily_ev a0 hs
    have e2 := impl_ReadFamily_ev a0 hs
    obtain ⟨b1, b2⟩ := readF_both a0
    rw [b1] at e2
    rcases b2 with b2 | ⟨n, gs, b2, hv, ht⟩
    ·rw [b2] at e1 e2
     exact ⟨0, [], 5, e1, e2, by simp, by simp [allLen]⟩
    ·rw [b2] at e1 e2
     have hl := famL_len n gs
     rw [ht, ← size_data] at hl
     exact ⟨n, gs, 0, e1, e2, by omega, by omega⟩
  obtain ⟨r1, r2, r3, e1, e2, z1, z2⟩ := both
  have z4 : ∀ r ∈ r2, r.length ≤ 1048576 := fun r hr => by
   have : ∀ (l : List (List Int)), ∀ r ∈ l, r.length ≤ allLen l := by
    intro l
    induction l with
    | nil => intro r hr; cases hr
    | cons q l ih =>
     intro r hr
     unfold allLen at *
     simp only [List.map_cons, List.sum_cons]
     rcases List.mem_cons.mp hr with rfl | hr
     ·omega
     ·have := ih r hr
      omega
   have := this r2 r hr
   omega
  obtain ⟨k, a1, a2, a3, a4, a5⟩ := From.now (From.and e1 (From.and e2 (From.and (eqFamily_same r1 r2 (by omega) z4) (From.and (markFamily_ev r1 r2 1 (by omega) (by omega) (by omega)) (heldFamily_ev r1 r2 1 (by omega) (by omega) (by omega))))))
  exact Or.inr ⟨k, r1, r2, r3, _, _, decide_eq_false (by omega), decide_eq_false (by omega), a1, a2, a3, a4, a5, decide_eq_false (by omega), a2, a3, a5, decide_eq_false (by omega)⟩
 ·exact Or.inl ⟨0, decide_eq_true (by omega), decide_eq_true (by omega)⟩
end Go.Proofs.YtijmdlhcidjpmaaDoor.Pure

namespace Go.Proofs.YtijmdlhcidjpmaaDoor.P
open Go.RowKit Go.Proofs.YtijmdlhcidjpmaaDoorW.PrintWords Go.Proofs.YtijmdlhcidjpmaaDoorW.PrintLast Go.Proofs.YtijmdlhcidjpmaaDoorW.PrintMore
attribute [local go_sem] max2_int min2_int max_two min_two max_three min_three max_four min_four
set_option linter.unusedVariables false
set_option linter.unusedSimpArgs false
section
variable {H : Type} {enc : TypeId × Value → H}
theorem handed_and_shaped {a : Assume} {C : Checked} {os : Os} {f : FuncId} {fn : Func} {s : ChangeSpec} {conds : List PathCond} {apart fresh handsOn again : Bool} {X : World → Array Value → Prop}
  (hX : ∀ (w w' : World) (args : Array Value), w.heap = w'.heap → X w args → X w' args)
  (own : ownKnob C.prog.godebug = none) (started : os.Started) (noInit : C.prog.inits.idxOf? f = none) (hfn : C.prog.funcs[f]? = some fn)
  (witness : ∃ (w : World) (tape : Tape) (i : Input), w.os = os ∧ (w.forCall tape i).Shaped C.prog ∧ i.vars = [] ∧ Input.okWide C.prog (w.forCall tape i) .any w.heap.size f i ∧
   ((s.pre enc C.prog fn conds apart (w.forCall tape i).memory i.args ∧ X (w.forCall tape i).memory i.args) ∧ sizedMet enc C.prog fn (OpenSpec.ofChange s) apart (w.forCall tape i).memory i.args) ∧ a.holds C.prog (lone (Frame.enter C.prog f i.args .normal) [] (w.forCall tape i)))
  (contract : ∀ (W : World) (base : Nat) (args : Array Value) (ds gs : List (DataW H)) (before : List MemPlace),
   (∀ (j : Nat) t v, fn.params[j]? = some t → args[j]? = some v → Value.okWide C.prog W .any base t v) →
   DataW.Whole enc C.prog fn.params.toList s.vars apart W args.toList ds gs before →
   conds.all (PathCond.test C.prog ⟨fn.params.toList, ds, s.plain.varTypes C.prog, gs⟩) = true →
   W.ShapedOpen C.prog → X W args →
   a.holds C.prog (lone (Frame.enter C.prog f args .normal) [] W) →
   Calls C.prog f args W fun e W' => ∃ v, e = .returned v ∧ s.post enc C.prog fn apart fresh handsOn again W args v W') :
  ReturnsInHanded a C os f .any (fun w args => (s.pre enc C.prog fn conds apart w args ∧ X w args) ∧ sizedMet enc C.prog fn (OpenSpec.ofChange s) apart w args) (s.post enc C.prog fn apart fresh handsOn again) := by
 refine returnsInHanded_of_calls own started noInit witness ?_
 intro w tape i _ hsh _ hok hpre hholds
 obtain ⟨_, _, _, fn', hfn', _, _, _, _, hval⟩ := hok
 have e : fn' = fn := Option.some.inj (hfn'.symm.trans hfn)
 subst e
 obtain ⟨⟨⟨ds, gs, before, hw, hc⟩, hx⟩, _⟩ := hpre
 have hw' := DataW.Whole.of_heap (w' := w.forCall tape i) (by rfl) hw
 refine (contract (w.forCall tape i) w.heap.size i.args ds gs before hval hw' hc hsh (hX _ _ _ (by rfl) hx) hholds).mono fun e W' ⟨v, he, hp⟩ => ?_
 subst he
 exact ChangeSpec.post_blind hp
end
theorem errStar : "*" ++ "errors.errorString" = "*errors.errorString" := by decide
theorem errRow (u : TypeId) (h : Tryd.prog.typeName? 3 u = some "*errors.errorString") : u = 185 :=
 typeName_ptr_named (nm := "errors.errorString") (by rw [errStar]; kernel_rfl) (by kernel_rfl) (by decide) u (by rw [errStar]; exact h)
theorem glob_of {W : World} {t0 t1 : List UInt8} {r : List (String × DataW Unit)} (hS : W.ShapedOpen Tryd.prog) (hT : Go.Lib.TabIs Tryd.prog W "internal/strconv.uint64pow10" .u64 Go.Lib.pow10Tab)
  (hL : laidMet Tryd.prog (("strconv.ErrRange", .iface "*errors.errorString" (.ptr (.agg [.lit (.string t0)]))) :: ("strconv.ErrSyntax", .iface "*errors.errorString" (.ptr (.agg [.lit (.string t1)]))) :: r) W) : Glob W := by
 have hm := cell_of_shapedOpen_int (P := Tryd.prog) (g := 3) (t := 3) (k := .i64) (zero := #[.int .i64 0]) hS (of_decide_eq_true (by kernel_rfl)) (by kernel_rfl) rfl (by kernel_rfl) (by kernel_rfl) Tryd.underlying3
 have g0 : Tryd.prog.globalNamed "strconv.ErrRange" = some 1 := by kernel_rfl
 have g1 : Tryd.prog.globalNamed "strconv.ErrSyntax" = some 0 := by kernel_rfl
 obtain ⟨a0, a1, _, _, _, _, _, _, h0, h1, _⟩ := laid_sentinels2 (g0 := 1) (g1 := 0) (ti := 102) (tp := 185) (te := 187) (ts := 9) hL g0 (by kernel_rfl) g1 (by kernel_rfl) Tryd.underlying102 errRow Tryd.underlying185 Tryd.underlying187 rfl rfl Tryd.underlying9 (by kernel_rfl) (by kernel_rfl)
 exact ⟨hm, ⟨_, World.var?_cell g1 h1 0, Or.inr ⟨_, _, rfl⟩⟩, ⟨_, World.var?_cell g0 h0 0, Or.inr ⟨_, _, rfl⟩⟩, hT⟩
end Go.Proofs.YtijmdlhcidjpmaaDoor.P
