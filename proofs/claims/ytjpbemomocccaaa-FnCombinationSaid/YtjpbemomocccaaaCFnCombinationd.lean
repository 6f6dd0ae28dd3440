/- For any two byte lists the law of spanned lists, combinations and solutions answers true. This text: part 4 of what it rests on: functions of the translation as plain Lean functions, and that the machine's calls come to their answers. -/
import Derived.Test.YtjpbemomocccaaaCFnCombinationc
namespace Go.Proofs.Ytjpbemomocccaaa.P
open Go.RowKit Go.Proofs.YtjpbemomocccaaaW.PrintWords Go.Proofs.YtjpbemomocccaaaW.PrintLast Go.Proofs.YtjpbemomocccaaaW.PrintMore
attribute [local go_sem] max2_int min2_int max_two min_two max_three min_three max_four min_four
set_option linter.unusedVariables false
set_option linter.unusedSimpArgs false

/-! ### spec_l03Drawn: function 78 -/
def spec_l03Drawn.f (k : Nat) (s0_0 : List Int) (s0_1 : Int) (s0_2 : Int) : Option (Int × Int × (List (List Int)) × Int × Int) := (spec_l03Prime.f s0_0 s0_1 s0_2).bind fun bt572 => ((spec_l00Src_pick.f s0_0 bt572.2.1 bt572.2.2 6).bind fun bt575 => ((spec_l00Src_pick.f s0_0 bt575.2.1 bt575.2.2 6).bind fun bt578 => ((spec_l03Filled.f k s0_0 bt578.2.1 bt578.2.2 bt572.1 bt575.1 bt578.1).bind fun bt581 => (some (bt581.1, bt581.2.1, bt581.2.2.1, bt581.2.2.2.1, bt581.2.2.2.2)))))
set_option maxHeartbeats 8000000 in
set_option maxRecDepth 100000 in
theorem spec_l03Drawn.calls (k : Nat) (g : Nat) (s0_0 : List Int) (s0_1 : Int) (s0_2 : Int) (r1 : Int) (r2 : Int) (r3 : List (List Int)) (r4 : Int) (r5 : Int) (w0 w : World) (hI : IsS113 w0 w g s0_0 s0_1 s0_2) (hB : Below w0.heap.size w0 w) (h : spec_l03Drawn.f k s0_0 s0_1 s0_2 = some (r1, r2, r3, r4, r5)) :
    Calls Try.prog 78 #[.pointer (some ⟨g, 0, none⟩)] w fun e w' => ∃ v2_ : Value, e = .returned (.agg #[.int .i64 r1, .int .i64 r2, v2_]) ∧ Kd.S (Kd.slice 2 (Kd.int .i64)) 35 w' w.heap.size (fun _ => True) v2_ r3 ∧ IsS113 w0 w' g s0_0 r4 r5 ∧ Below w0.heap.size w0 w' ∧ KeepBut w w' g none := by
  have hu26 := Try.underlying26
  have HI0 := Aside0.mk hI
  have HK := Aside0.mk (KeepBut.refl w g none)
  have HL := Aside0.mk hB.size
  clear hI
  have HW0 := Aside0.mk hB.size
  have HB := Aside0.mk hB
  clear hB
  have H : ((spec_l03Prime.f s0_0 s0_1 s0_2).bind fun bt572 => ((spec_l00Src_pick.f s0_0 bt572.2.1 bt572.2.2 6).bind fun bt575 => ((spec_l00Src_pick.f s0_0 bt575.2.1 bt575.2.2 6).bind fun bt578 => ((spec_l03Filled.f k s0_0 bt578.2.1 bt578.2.2 bt572.1 bt575.1 bt578.1).bind fun bt581 => (some (bt581.1, bt581.2.1, bt581.2.2.1, bt581.2.2.2.1, bt581.2.2.2.2)))))) = some (r1, r2, r3, r4, r5) := h
  clear h
  replace H := Option.bind_eq_some_iff.mp H
  obtain ⟨⟨t572, t573, t574⟩, A20, H⟩ := H
  replace H : ((spec_l00Src_pick.f s0_0 t573 t574 6).bind fun bt575 => ((spec_l00Src_pick.f s0_0 bt575.2.1 bt575.2.2 6).bind fun bt578 => ((spec_l03Filled.f k s0_0 bt578.2.1 bt578.2.2 t572 bt575.1 bt578.1).bind fun bt581 => (some (bt581.1, bt581.2.1, bt581.2.2.1, bt581.2.2.2.1, bt581.2.2.2.2))))) = some (r1, r2, r3, r4, r5) := H
  have A2 := Aside0.mk A20
  clear A20
  replace H := Option.bind_eq_some_iff.mp H
  obtain ⟨⟨t575, t576, t577⟩, A30, H⟩ := H
  replace H : ((spec_l00Src_pick.f s0_0 t576 t577 6).bind fun bt578 => ((spec_l03Filled.f k s0_0 bt578.2.1 bt578.2.2 t572 t575 bt578.1).bind fun bt581 => (some (bt581.1, bt581.2.1, bt581.2.2.1, bt581.2.2.2.1, bt581.2.2.2.2)))) = some (r1, r2, r3, r4, r5) := H
  have A3 := Aside0.mk A30
  clear A30
  replace H := Option.bind_eq_some_iff.mp H
  obtain ⟨⟨t578, t579, t580⟩, A40, H⟩ := H
  replace H : ((spec_l03Filled.f k s0_0 t579 t580 t572 t575 t578).bind fun bt581 => (some (bt581.1, bt581.2.1, bt581.2.2.1, bt581.2.2.2.1, bt581.2.2.2.2))) = some (r1, r2, r3, r4, r5) := H
  have A4 := Aside0.mk A40
  clear A40
  replace H := Option.bind_eq_some_iff.mp H
  obtain ⟨⟨t581, t582, t583, t586, t587⟩, A50, H⟩ := H
  replace H : (some (t581, t582, t583, t586, t587)) = some (r1, r2, r3, r4, r5) := H
  have A5 := Aside0.mk A50
  clear A50
  simp only [Option.some.injEq, Prod.mk.injEq] at H
  obtain ⟨rfl, rfl, rfl, rfl, rfl⟩ := H
  go_enter Try.func78, Try.ntmps78
  go_wp2_with (first | ((with_reducible refine gate_dst (N := 2) rfl ?_); refine box_event ?hg (N := 2) ?hd (cs := #[.int .i64 0, .int .i64 0, .slice none 0 0]) (t := 26) ?hr ?_; (case hd => rfl); (case hg => rfl); (case hr => first | (go_simp; done) | (go_simp; rfl)); intro gb571 hg w6 hbox hb; have n0_ := Aside0.mk (IsS113.below (by repeat (first | (with_reducible first | exact HI0.out | apply IsS113.alloc | apply IsS113.drewN | apply IsS113.drew | apply IsS113.set_1 | apply IsS113.set_2) | exact HI0.out)) hb); have n1_ := Aside0.mk (KeepBut.trans (by repeat (first | (with_reducible first | exact HK.out | apply KeepBut.set_ | apply keep_drewN | apply keep_drew | apply keep_alloc) | exact HK.out)) (KeepBut.of_below hb g none) (.inl rfl)); have n2_ := Aside0.mk (below_step (by repeat (first | (with_reducible first | exact HB.out | apply below_alloc | apply pw_below_drewN | apply below_drew1 | refine below_set ?_ (IsS113.ge HI0.out)) | exact HB.out)) hb); have n3_ := Aside0.mk (hbox); have n4_ := Aside0.mk ((by rw [hg]; exact (keep_size (w := w) (g := g) (row := none) (by repeat (first | (with_reducible first | exact HK.out | apply KeepBut.set_ | apply keep_drewN | apply keep_drew | apply keep_alloc) | exact HK.out))) : w.heap.size ≤ gb571)); have n5_ := Aside0.mk ((Nat.le_trans HW0.out (by rw [hg]; exact (keep_size (w := w) (g := g) (row := none) (by repeat (first | (with_reducible first | exact HK.out | apply KeepBut.set_ | apply keep_drewN | apply keep_drew | apply keep_alloc) | exact HK.out))) : w.heap.size ≤ gb571) : w0.heap.size ≤ gb571)); have n6_ := Aside0.mk ((by rw [hg]; exact Nat.ne_of_lt (IsS113.lt (show IsS113 w0 _ g s0_0 s0_1 s0_2 from by repeat (first | (with_reducible first | exact HI0.out | apply IsS113.alloc | apply IsS113.drewN | apply IsS113.drew | apply IsS113.set_1 | apply IsS113.set_2) | exact HI0.out))) : g ≠ gb571)); have n7_ := Aside0.mk ((by rw [hg]; exact Nat.ne_of_gt (IsS113.lt (show IsS113 w0 _ g s0_0 s0_1 s0_2 from by repeat (first | (with_reducible first | exact HI0.out | apply IsS113.alloc | apply IsS113.drewN | apply IsS113.drew | apply IsS113.set_1 | apply IsS113.set_2) | exact HI0.out))) : gb571 ≠ g)); clear HI0; clear HK; clear HB; have HI0 := n0_; have HK := n1_; have HB := n2_; have BK571 := n3_; have GW571 := n4_; have GE571 := n5_; have NB0_571 := n6_; have NB571_0 := n7_; clear n0_ n1_ n2_ n3_ n4_ n5_ n6_ n7_; clear hb hbox hg) | ((with_reducible refine gate_callee (f := 104) rfl ?_); refine goesL_ (some 5) rfl rfl Try.func104 (by kernel_rfl) rfl #[.pointer (some ⟨g, 0, none⟩)] rfl (by (try simp only [List.map_toArray, List.map_cons, List.map_nil]); first | done | rfl | (simp only [List.length_drop, List.length_take]; rfl)) ?_; (with_reducible refine (spec_l03Prime.calls g s0_0 s0_1 s0_2 t572 t573 t574 w0 _ ?side1 ?side2 A2.out).mono ?_); (case side1 => repeat (first | (with_reducible first | exact HI0.out | apply IsS113.alloc | apply IsS113.drewN | apply IsS113.drew | apply IsS113.set_1 | apply IsS113.set_2 | refine IsS113.far ?_ NB0_571.out _) | exact HI0.out)); (case side2 => repeat (first | (with_reducible first | exact HB.out | apply below_alloc | apply pw_below_drewN | apply below_drew1 | refine below_set ?_ (IsS113.ge HI0.out) | refine below_set ?_ GE571.out) | exact HB.out)); rintro e w7 ⟨rfl, hi, hb, hk⟩; refine ⟨_, rfl, ?_⟩; have n0_ := Aside0.mk (KeepBut.blk hk (g' := gb571) (o := .cells #[.int .i64 0, .int .i64 0, .slice none 0 0] 26 (0, 0)) (by (with_reducible repeat (first | refine blk_drewN ?_ _ | refine blk_drew ?_ | refine blk_alloc ?_ _)); exact BK571.out) NB571_0.out (by simp)); have n1_ := Aside0.mk (KeepBut.trans (by repeat (first | (with_reducible first | exact HK.out | apply KeepBut.set_ | apply keep_drewN | apply keep_drew | apply keep_alloc | refine keep_far ?_ GW571.out _) | exact HK.out)) hk (.inl rfl)); have n2_ := Aside0.mk (hb); have n3_ := Aside0.mk (hi); clear BK571; clear HK; clear HB; clear HI0; have BK571 := n0_; have HK := n1_; have HB := n2_; have HI0 := n3_; clear n0_ n1_ n2_ n3_; (try clear hb); (try clear hb2); (try clear hk); (try clear hi)) | ((with_reducible refine gate_callee (f := 80) rfl ?_); refine goesL_ (some 7) rfl rfl Try.func80 (by kernel_rfl) rfl #[.pointer (some ⟨g, 0, none⟩), .int .i64 6] rfl (by (try simp only [List.map_toArray, List.map_cons, List.map_nil]); first | done | rfl | (simp only [List.length_drop, List.length_take]; rfl)) ?_; (with_reducible refine (spec_l00Src_pick.calls g s0_0 t573 t574 6 t575 t576 t577 w0 _ ?side1 ?side2 A3.out).mono ?_); (case side1 => repeat (first | (with_reducible first | exact HI0.out | apply IsS113.alloc | apply IsS113.drewN | apply IsS113.drew | apply IsS113.set_1 | apply IsS113.set_2 | refine IsS113.far ?_ NB0_571.out _) | exact HI0.out)); (case side2 => repeat (first | (with_reducible first | exact HB.out | apply below_alloc | apply pw_below_drewN | apply below_drew1 | refine below_set ?_ (IsS113.ge HI0.out) | refine below_set ?_ GE571.out) | exact HB.out)); rintro e w8 ⟨rfl, hi, hb, hk⟩; refine ⟨_, rfl, ?_⟩; have n0_ := Aside0.mk (KeepBut.blk hk (g' := gb571) (o := .cells #[.int .i64 0, .int .i64 0, .slice none 0 0] 26 (0, 0)) (by (with_reducible repeat (first | refine blk_drewN ?_ _ | refine blk_drew ?_ | refine blk_alloc ?_ _)); exact BK571.out) NB571_0.out (by simp)); have n1_ := Aside0.mk (KeepBut.trans (by repeat (first | (with_reducible first | exact HK.out | apply KeepBut.set_ | apply keep_drewN | apply keep_drew | apply keep_alloc | refine keep_far ?_ GW571.out _) | exact HK.out)) hk (.inl rfl)); have n2_ := Aside0.mk (hb); have n3_ := Aside0.mk (hi); clear BK571; clear HK; clear HB; clear HI0; have BK571 := n0_; have HK := n1_; have HB := n2_; have HI0 := n3_; clear n0_ n1_ n2_ n3_; (try clear hb); (try clear hb2); (try clear hk); (try clear hi)) | ((with_reducible refine gate_callee (f := 80) rfl ?_); refine goesL_ (some 9) rfl rfl Try.func80 (by kernel_rfl) rfl #[.pointer (some ⟨g, 0, none⟩), .int .i64 6] rfl (by (try simp only [List.map_toArray, List.map_cons, List.map_nil]); first | done | rfl | (simp only [List.length_drop, List.length_take]; rfl)) ?_; (with_reducible refine (spec_l00Src_pick.calls g s0_0 t576 t577 6 t578 t579 t580 w0 _ ?side1 ?side2 A4.out).mono ?_); (case side1 => repeat (first | (with_reducible first | exact HI0.out | apply IsS113.alloc | apply IsS113.drewN | apply IsS113.drew | apply IsS113.set_1 | apply IsS113.set_2 | refine IsS113.far ?_ NB0_571.out _) | exact HI0.out)); (case side2 => repeat (first | (with_reducible first | exact HB.out | apply below_alloc | apply pw_below_drewN | apply below_drew1 | refine below_set ?_ (IsS113.ge HI0.out) | refine below_set ?_ GE571.out) | exact HB.out)); rintro e w9 ⟨rfl, hi, hb, hk⟩; refine ⟨_, rfl, ?_⟩; have n0_ := Aside0.mk (KeepBut.blk hk (g' := gb571) (o := .cells #[.int .i64 0, .int .i64 0, .slice none 0 0] 26 (0, 0)) (by (with_reducible repeat (first | refine blk_drewN ?_ _ | refine blk_drew ?_ | refine blk_alloc ?_ _)); exact BK571.out) NB571_0.out (by simp)); have n1_ := Aside0.mk (KeepBut.trans (by repeat (first | (with_reducible first | exact HK.out | apply KeepBut.set_ | apply keep_drewN | apply keep_drew | apply keep_alloc | refine keep_far ?_ GW571.out _) | exact HK.out)) hk (.inl rfl)); have n2_ := Aside0.mk (hb); have n3_ := Aside0.mk (hi); clear BK571; clear HK; clear HB; clear HI0; have BK571 := n0_; have HK := n1_; have HB := n2_; have HI0 := n3_; clear n0_ n1_ n2_ n3_; (try clear hb); (try clear hb2); (try clear hk); (try clear hi)) | ((with_reducible refine gate_callee (f := 103) rfl ?_); refine goesL_ (some 10) rfl rfl Try.func103 (by kernel_rfl) rfl #[.pointer (some ⟨g, 0, none⟩), .int .i64 t572, .int .i64 t575, .int .i64 t578] rfl (by (try simp only [List.map_toArray, List.map_cons, List.map_nil]); first | done | rfl | (simp only [List.length_drop, List.length_take]; rfl)) ?_; (with_reducible refine (spec_l03Filled.calls k g s0_0 t579 t580 t572 t575 t578 t581 t582 t583 t586 t587 w0 _ ?side1 ?side2 A5.out).mono ?_); (case side1 => repeat (first | (with_reducible first | exact HI0.out | apply IsS113.alloc | apply IsS113.drewN | apply IsS113.drew | apply IsS113.set_1 | apply IsS113.set_2 | refine IsS113.far ?_ NB0_571.out _) | exact HI0.out)); (case side2 => repeat (first | (with_reducible first | exact HB.out | apply below_alloc | apply pw_below_drewN | apply below_drew1 | refine below_set ?_ (IsS113.ge HI0.out) | refine below_set ?_ GE571.out) | exact HB.out)); rintro e w10 ⟨v584, rfl, ho0, hi, hb, hk⟩; refine ⟨_, rfl, ?_⟩; have n0_ := Aside0.mk (KeepBut.blk hk (g' := gb571) (o := .cells #[.int .i64 0, .int .i64 0, .slice none 0 0] 26 (0, 0)) (by (with_reducible repeat (first | refine blk_drewN ?_ _ | refine blk_drew ?_ | refine blk_alloc ?_ _)); exact BK571.out) NB571_0.out (by simp)); have n1_ := Aside0.mk (Kd.S_lower ho0 (keep_size (w := w) (g := g) (row := none) (by repeat (first | (with_reducible first | exact HK.out | apply KeepBut.set_ | apply keep_drewN | apply keep_drew | apply keep_alloc | refine keep_far ?_ GW571.out _) | exact HK.out)))); have n2_ := Aside0.mk (KeepBut.trans (by repeat (first | (with_reducible first | exact HK.out | apply KeepBut.set_ | apply keep_drewN | apply keep_drew | apply keep_alloc | refine keep_far ?_ GW571.out _) | exact HK.out)) hk (.inl rfl)); have n3_ := Aside0.mk (hb); have n4_ := Aside0.mk (hi); clear BK571; clear HK; clear HB; clear HI0; have BK571 := n0_; have HO585 := n1_; have HK := n2_; have HB := n3_; have HI0 := n4_; clear n0_ n1_ n2_ n3_ n4_; (try clear hb); (try clear hb2); (try clear hk); (try clear hi); (try clear ho0); have hnb11 := NB571_0.out; have hnc11 := NB0_571.out; have hcz12_0 : w10.cell? ⟨gb571, 0, none⟩ = some (.int .i64 0) := (blk_cell BK571.out 0).trans rfl; have hcz12_1 : w10.cell? ⟨gb571, 1, none⟩ = some (.int .i64 0) := (blk_cell BK571.out 1).trans rfl; have hcz12_2 : w10.cell? ⟨gb571, 2, none⟩ = some (.slice none 0 0) := (blk_cell BK571.out 2).trans rfl; have hfz12_0 := blk_frozen BK571.out 0; have hfz12_1 := blk_frozen BK571.out 1; have hfz12_2 := blk_frozen BK571.out 2; obtain ⟨Ao13, co13, eo13⟩ := Kd.S_slice HO585.out; subst eo13))
  refine bodyPost_ret (results_cell_row rfl _ _ gb571 26 #[.int .i64 t581, .int .i64 t582, .slice Ao13 t583.length co13] (0, 0) _ rfl (by (with_reducible repeat (first | refine blk_drewN ?_ _ | refine blk_drew ?_ | refine blk_alloc ?_ _)); refine blk_put (cs := #[.int .i64 t581, .int .i64 t582, .slice none 0 0]) ?_ 2 _ rfl; (with_reducible repeat (first | refine blk_drewN ?_ _ | refine blk_drew ?_ | refine blk_alloc ?_ _)); refine blk_put (cs := #[.int .i64 t581, .int .i64 0, .slice none 0 0]) ?_ 1 _ rfl; (with_reducible repeat (first | refine blk_drewN ?_ _ | refine blk_drew ?_ | refine blk_alloc ?_ _)); refine blk_put (cs := #[.int .i64 0, .int .i64 0, .slice none 0 0]) ?_ 0 _ rfl; (with_reducible repeat (first | refine blk_drewN ?_ _ | refine blk_drew ?_ | refine blk_alloc ?_ _)); exact BK571.out) Try.underlying26 rfl (by kernel_rfl)) rfl ?_
  exact ⟨_, by first | rfl | (simp [errW_none, errW_some] <;> rfl) | (simp [*, errW_none, errW_some] <;> rfl), by (with_reducible repeat (first | apply Kd.S_alloc | apply Kd.S_drewN | apply Kd.S_drew)); exact Kd.S_mono (Kd.S_far (p := ⟨gb571, 2, none⟩) (Kd.S_far (p := ⟨gb571, 1, none⟩) (Kd.S_far (p := ⟨gb571, 0, none⟩) (Kd.S_types HO585.out BK571.out (by decide)) (fun _ hk => hk.2) (.int .i64 t581)) (fun _ hk => hk.2) (.int .i64 t582)) (fun _ hk => hk.2) (.slice Ao13 t583.length co13)) (fun _ hk => trivial), by repeat (first | (with_reducible first | exact HI0.out | apply IsS113.alloc | apply IsS113.drewN | apply IsS113.drew | apply IsS113.set_1 | apply IsS113.set_2 | refine IsS113.far ?_ NB0_571.out _) | exact HI0.out), by repeat (first | (with_reducible first | exact HB.out | apply below_alloc | apply pw_below_drewN | apply below_drew1 | refine below_set ?_ (IsS113.ge HI0.out) | refine below_set ?_ GE571.out) | exact HB.out), by repeat (first | (with_reducible first | exact HK.out | apply KeepBut.set_ | apply keep_drewN | apply keep_drew | apply keep_alloc | refine keep_far ?_ GW571.out _) | exact HK.out)⟩

end Go.Proofs.Ytjpbemomocccaaa.P

namespace Go.Proofs.Ytjpbemomocccaaa.P
open Go.RowKit Go.Proofs.YtjpbemomocccaaaW.PrintWords Go.Proofs.YtjpbemomocccaaaW.PrintLast Go.Proofs.YtjpbemomocccaaaW.PrintMore
attribute [local go_sem] max2_int min2_int max_two min_two max_three min_three max_four min_four
set_option linter.unusedVariables false
set_option linter.unusedSimpArgs false

/-! ### spec_l00From: function 79 -/
def spec_l00From.f (l0 : List Int) : Option (List Int × Int × Int) := some (l0, 0, 0)
set_option maxHeartbeats 8000000 in
set_option maxRecDepth 100000 in
theorem spec_l00From.calls (A0 : Option Addr) (c0 : Nat) (l0 : List Int) (r1 : List Int) (r2 : Int) (r3 : Int) (w0 w : World) (hB : Below w0.heap.size w0 w) (hr0 : Kd.C (Kd.int .u8) w0 A0 l0.length l0) (hc0 : l0.length ≤ c0) (h : spec_l00From.f l0 = some (r1, r2, r3)) :
    Calls Try.prog 79 #[.slice A0 l0.length c0] w fun e w' => ∃ g_ : Nat, e = .returned (.pointer (some ⟨g_, 0, none⟩)) ∧ IsS113 w0 w' g_ r1 r2 r3 ∧ Below w0.heap.size w0 w' ∧ Below w.heap.size w w' := by
  have hu113 := Try.underlying113
  have HR0 := Aside0.mk hr0
  have HC0 := Aside0.mk hc0
  clear hr0 hc0
  have HBW := Aside0.mk (Below.refl w.heap.size w)
  have HW0 := Aside0.mk hB.size
  have HB := Aside0.mk hB
  clear hB
  have H : (some (l0, 0, 0)) = some (r1, r2, r3) := h
  clear h
  simp only [Option.some.injEq, Prod.mk.injEq] at H
  obtain ⟨rfl, rfl, rfl⟩ := H
  go_enter Try.func79, Try.ntmps79
  go_wp2_with (first | ((with_reducible refine gate_dst (N := 5) rfl ?_); refine box_event ?hg (N := 5) ?hd (cs := #[.slice A0 l0.length c0, .int .i64 0, .int .u64 0]) (t := 113) ?hr ?_; (case hd => rfl); (case hg => rfl); (case hr => first | (go_simp; done) | (go_simp; rfl)); intro gb588 hg w2 hbox hb; have n0_ := Aside0.mk (below_step HBW.out hb); have n1_ := Aside0.mk (below_step (by repeat (first | (with_reducible first | exact HB.out | apply below_alloc | apply pw_below_drewN | apply below_drew1) | exact HB.out)) hb); have n2_ := Aside0.mk (hbox); have n3_ := Aside0.mk ((by rw [hg]; exact (below_size (by repeat (first | (with_reducible first | exact HBW.out | apply below_alloc | apply pw_below_drewN | apply below_drew1) | exact HBW.out))) : w.heap.size ≤ gb588)); have n4_ := Aside0.mk ((Nat.le_trans HW0.out (by rw [hg]; exact (below_size (by repeat (first | (with_reducible first | exact HBW.out | apply below_alloc | apply pw_below_drewN | apply below_drew1) | exact HBW.out))) : w.heap.size ≤ gb588) : w0.heap.size ≤ gb588)); clear HBW; clear HB; have HBW := n0_; have HB := n1_; have BK588 := n2_; have GW588 := n3_; have GE588 := n4_; clear n0_ n1_ n2_ n3_ n4_; clear hb hbox hg))
  go_ret
  exact ⟨_, rfl, (show IsS113 w0 _ gb588 l0 0 0 from ⟨_, _, by (with_reducible repeat (first | refine blk_drewN ?_ _ | refine blk_drew ?_ | refine blk_alloc ?_ _)); exact BK588.out, GE588.out, HR0.out⟩), by repeat (first | (with_reducible first | exact HB.out | apply below_alloc | apply pw_below_drewN | apply below_drew1 | refine below_set ?_ GE588.out) | exact HB.out), by repeat (first | (with_reducible first | exact HBW.out | apply below_alloc | apply pw_below_drewN | apply below_drew1 | refine below_set ?_ GW588.out) | exact HBW.out)⟩

end Go.Proofs.Ytjpbemomocccaaa.P

namespace Go.Proofs.Ytjpbemomocccaaa.P
open Go.RowKit Go.Proofs.YtjpbemomocccaaaW.PrintWords Go.Proofs.YtjpbemomocccaaaW.PrintLast Go.Proofs.YtjpbemomocccaaaW.PrintMore
attribute [local go_sem] max2_int min2_int max_two min_two max_three min_three max_four min_four
set_option linter.unusedVariables false
set_option linter.unusedSimpArgs false

/-! ### spec_A2Matrix: function 36 -/
def spec_A2Matrix.f (k : Nat) (l0 : List Int) : Option (Int × Int × (List (List Int))) := (spec_l00From.f l0).bind fun bt590 => ((spec_l03Drawn.f k bt590.1 bt590.2.1 bt590.2.2).bind fun bt594 => (some (bt594.1, bt594.2.1, bt594.2.2.1)))
set_option maxHeartbeats 8000000 in
set_option maxRecDepth 100000 in
theorem spec_A2Matrix.calls (k : Nat) (A0 : Option Addr) (c0 : Nat) (l0 : List Int) (r1 : Int) (r2 : Int) (r3 : List (List Int)) (w : World) (hr0 : Kd.C (Kd.int .u8) w A0 l0.length l0) (hc0 : l0.length ≤ c0) (h : spec_A2Matrix.f k l0 = some (r1, r2, r3)) :
    Calls Try.prog 36 #[.slice A0 l0.length c0] w fun e w' => ∃ v2_ : Value, e = .returned (.agg #[.int .i64 r1, .int .i64 r2, v2_]) ∧ Kd.S (Kd.slice 2 (Kd.int .i64)) 35 w' w.heap.size (fun _ => True) v2_ r3 ∧ Below w.heap.size w w' := by
  have hu26 := Try.underlying26
  have HR0 := Aside0.mk hr0
  have HC0 := Aside0.mk hc0
  clear hr0 hc0
  have HB := Aside0.mk (Below.refl w.heap.size w)
  have H : ((spec_l00From.f l0).bind fun bt590 => ((spec_l03Drawn.f k bt590.1 bt590.2.1 bt590.2.2).bind fun bt594 => (some (bt594.1, bt594.2.1, bt594.2.2.1)))) = some (r1, r2, r3) := h
  clear h
  replace H := Option.bind_eq_some_iff.mp H
  obtain ⟨⟨t590, t591, t592⟩, A20, H⟩ := H
  replace H : ((spec_l03Drawn.f k t590 t591 t592).bind fun bt594 => (some (bt594.1, bt594.2.1, bt594.2.2.1))) = some (r1, r2, r3) := H
  have A2 := Aside0.mk A20
  clear A20
  replace H := Option.bind_eq_some_iff.mp H
  obtain ⟨⟨t594, t595, t596, t599, t600⟩, A30, H⟩ := H
  replace H : (some (t594, t595, t596)) = some (r1, r2, r3) := H
  have A3 := Aside0.mk A30
  clear A30
  simp only [Option.some.injEq, Prod.mk.injEq] at H
  obtain ⟨rfl, rfl, rfl⟩ := H
  go_enter Try.func36, Try.ntmps36
  go_wp2_with (first | ((with_reducible refine gate_dst (N := 2) rfl ?_); refine box_event ?hg (N := 2) ?hd (cs := #[.int .i64 0, .int .i64 0, .slice none 0 0]) (t := 26) ?hr ?_; (case hd => rfl); (case hg => rfl); (case hr => first | (go_simp; done) | (go_simp; rfl)); intro gb589 hg w4 hbox hb; have n0_ := Aside0.mk (below_step (by repeat (first | (with_reducible first | exact HB.out | apply below_alloc | apply pw_below_drewN | apply below_drew1) | exact HB.out)) hb); have n1_ := Aside0.mk (hbox); have n2_ := Aside0.mk ((by rw [hg]; exact (below_size (by repeat (first | (with_reducible first | exact HB.out | apply below_alloc | apply pw_below_drewN | apply below_drew1) | exact HB.out))) : w.heap.size ≤ gb589)); have n3_ := Aside0.mk ((by rw [hg]; exact (below_size (by repeat (first | (with_reducible first | exact HB.out | apply below_alloc | apply pw_below_drewN | apply below_drew1) | exact HB.out))) : w.heap.size ≤ gb589)); clear HB; have HB := n0_; have BK589 := n1_; have GW589 := n2_; have GE589 := n3_; clear n0_ n1_ n2_ n3_; clear hb hbox hg) | ((with_reducible refine gate_callee (f := 79) rfl ?_); refine goesL_ (some 4) rfl rfl Try.func79 (by kernel_rfl) rfl #[.slice A0 l0.length c0] rfl (by (try simp only [List.map_toArray, List.map_cons, List.map_nil]); first | done | rfl | (simp only [List.length_drop, List.length_take]; rfl)) ?_; (with_reducible refine (spec_l00From.calls _ _ l0 t590 t591 t592 w _ ?side1 ?side2 ?side3 A2.out).mono ?_); (case side1 => repeat (first | (with_reducible first | exact HB.out | apply below_alloc | apply pw_below_drewN | apply below_drew1 | refine below_set ?_ GE589.out) | exact HB.out)); (case side2 => exact HR0.out); (case side3 => exact HC0.out); rintro e w5 ⟨g593, rfl, hi, hb, hb2⟩; refine ⟨_, rfl, ?_⟩; have n0_ := Aside0.mk (blk_below (g := gb589) (o := .cells #[.int .i64 0, .int .i64 0, .slice none 0 0] 26 (0, 0)) (by (with_reducible repeat (first | refine blk_drewN ?_ _ | refine blk_drew ?_ | refine blk_alloc ?_ _)); exact BK589.out) hb2); have n1_ := Aside0.mk (hb); have n2_ := Aside0.mk (hi); have n3_ := Aside0.mk (IsS113.ne_blk hi (blk_below (g := gb589) (o := .cells #[.int .i64 0, .int .i64 0, .slice none 0 0] 26 (0, 0)) (by (with_reducible repeat (first | refine blk_drewN ?_ _ | refine blk_drew ?_ | refine blk_alloc ?_ _)); exact BK589.out) hb2) (by decide)); have n4_ := Aside0.mk (Ne.symm (IsS113.ne_blk hi (blk_below (g := gb589) (o := .cells #[.int .i64 0, .int .i64 0, .slice none 0 0] 26 (0, 0)) (by (with_reducible repeat (first | refine blk_drewN ?_ _ | refine blk_drew ?_ | refine blk_alloc ?_ _)); exact BK589.out) hb2) (by decide))); clear BK589; clear HB; have BK589 := n0_; have HB := n1_; have HI593 := n2_; have NB593_589 := n3_; have NB589_593 := n4_; clear n0_ n1_ n2_ n3_ n4_; (try clear hb); (try clear hb2); (try clear hk); (try clear hi)) | ((with_reducible refine gate_callee (f := 78) rfl ?_); refine goesL_ (some 5) rfl rfl Try.func78 (by kernel_rfl) rfl #[.pointer (some ⟨g593, 0, none⟩)] rfl (by (try simp only [List.map_toArray, List.map_cons, List.map_nil]); first | done | rfl | (simp only [List.length_drop, List.length_take]; rfl)) ?_; (with_reducible refine (spec_l03Drawn.calls k g593 t590 t591 t592 t594 t595 t596 t599 t600 w _ ?side1 ?side2 A3.out).mono ?_); (case side1 => repeat (first | (with_reducible first | exact HI593.out | apply IsS113.alloc | apply IsS113.drewN | apply IsS113.drew | apply IsS113.set_1 | apply IsS113.set_2 | refine IsS113.far ?_ NB593_589.out _) | exact HI593.out)); (case side2 => repeat (first | (with_reducible first | exact HB.out | apply below_alloc | apply pw_below_drewN | apply below_drew1 | refine below_set ?_ (IsS113.ge HI593.out) | refine below_set ?_ GE589.out) | exact HB.out)); rintro e w6 ⟨v597, rfl, ho0, hi, hb, hk⟩; refine ⟨_, rfl, ?_⟩; have n0_ := Aside0.mk (KeepBut.blk hk (g' := gb589) (o := .cells #[.int .i64 0, .int .i64 0, .slice none 0 0] 26 (0, 0)) (by (with_reducible repeat (first | refine blk_drewN ?_ _ | refine blk_drew ?_ | refine blk_alloc ?_ _)); exact BK589.out) NB589_593.out (by simp)); have n1_ := Aside0.mk (Kd.S_lower ho0 (below_size (by repeat (first | (with_reducible first | exact HB.out | apply below_alloc | apply pw_below_drewN | apply below_drew1 | refine below_set ?_ (IsS113.ge HI593.out) | refine below_set ?_ GE589.out) | exact HB.out)))); have n2_ := Aside0.mk (hb); have n3_ := Aside0.mk (hi); clear BK589; clear HB; clear HI593; have BK589 := n0_; have HO598 := n1_; have HB := n2_; have HI593 := n3_; clear n0_ n1_ n2_ n3_; (try clear hb); (try clear hb2); (try clear hk); (try clear hi); (try clear ho0); have hnb7 := NB589_593.out; have hnc7 := NB593_589.out; have hcz8_0 : w6.cell? ⟨gb589, 0, none⟩ = some (.int .i64 0) := (blk_cell BK589.out 0).trans rfl; have hcz8_1 : w6.cell? ⟨gb589, 1, none⟩ = some (.int .i64 0) := (blk_cell BK589.out 1).trans rfl; have hcz8_2 : w6.cell? ⟨gb589, 2, none⟩ = some (.slice none 0 0) := (blk_cell BK589.out 2).trans rfl; have hfz8_0 := blk_frozen BK589.out 0; have hfz8_1 := blk_frozen BK589.out 1; have hfz8_2 := blk_frozen BK589.out 2; obtain ⟨Ao9, co9, eo9⟩ := Kd.S_slice HO598.out; subst eo9))
  refine bodyPost_ret (results_cell_row rfl _ _ gb589 26 #[.int .i64 t594, .int .i64 t595, .slice Ao9 t596.length co9] (0, 0) _ rfl (by (with_reducible repeat (first | refine blk_drewN ?_ _ | refine blk_drew ?_ | refine blk_alloc ?_ _)); refine blk_put (cs := #[.int .i64 t594, .int .i64 t595, .slice none 0 0]) ?_ 2 _ rfl; (with_reducible repeat (first | refine blk_drewN ?_ _ | refine blk_drew ?_ | refine blk_alloc ?_ _)); refine blk_put (cs := #[.int .i64 t594, .int .i64 0, .slice none 0 0]) ?_ 1 _ rfl; (with_reducible repeat (first | refine blk_drewN ?_ _ | refine blk_drew ?_ | refine blk_alloc ?_ _)); refine blk_put (cs := #[.int .i64 0, .int .i64 0, .slice none 0 0]) ?_ 0 _ rfl; (with_reducible repeat (first | refine blk_drewN ?_ _ | refine blk_drew ?_ | refine blk_alloc ?_ _)); exact BK589.out) Try.underlying26 rfl (by kernel_rfl)) rfl ?_
  exact ⟨_, by first | rfl | (simp [errW_none, errW_some] <;> rfl) | (simp [*, errW_none, errW_some] <;> rfl), by (with_reducible repeat (first | apply Kd.S_alloc | apply Kd.S_drewN | apply Kd.S_drew)); exact Kd.S_mono (Kd.S_far (p := ⟨gb589, 2, none⟩) (Kd.S_far (p := ⟨gb589, 1, none⟩) (Kd.S_far (p := ⟨gb589, 0, none⟩) (Kd.S_types HO598.out BK589.out (by decide)) (fun _ hk => hk.2) (.int .i64 t594)) (fun _ hk => hk.2) (.int .i64 t595)) (fun _ hk => hk.2) (.slice Ao9 t596.length co9)) (fun _ hk => trivial), by repeat (first | (with_reducible first | exact HB.out | apply below_alloc | apply pw_below_drewN | apply below_drew1 | refine below_set ?_ (IsS113.ge HI593.out) | refine below_set ?_ GE589.out) | exact HB.out)⟩

end Go.Proofs.Ytjpbemomocccaaa.P

namespace Go.Proofs.Ytjpbemomocccaaa.P
open Go.RowKit Go.Proofs.YtjpbemomocccaaaW.PrintWords Go.Proofs.YtjpbemomocccaaaW.PrintLast Go.Proofs.YtjpbemomocccaaaW.PrintMore
attribute [local go_sem] max2_int min2_int max_two min_two max_three min_three max_four min_four
set_option linter.unusedVariables false
set_option linter.unusedSimpArgs false

/-! ### spec_A2Elements: function 37 -/
def spec_A2Elements.l0 : Nat → Int → Int → List Int → Int → List Int → Int → Int → Option (List Int)
  | 0, _, _, _, _, _, _, _ => none
  | k + 1, x1, x2, x8, x9, x605000, x605001, x605002 => if x9 < x2 then ((spec_l00Src_pick.f x605000 x605001 x605002 x1).bind fun bt608 => (if x8.length < 17592186044416 then (spec_A2Elements.l0 k x1 x2 (x8 ++ [bt608.1]) (wrap64 (x9 + 1)) x605000 bt608.2.1 bt608.2.2) else (none))) else (some x8)
def spec_A2Elements.f (k : Nat) (l0 : List Int) (a1 : Int) (a2 : Int) : Option (List Int) := (spec_l00From.f l0).bind fun bt601 => (spec_A2Elements.l0 k a1 a2 (([] : List Int)) 0 bt601.1 bt601.2.1 bt601.2.2)
set_option maxHeartbeats 8000000 in
set_option maxRecDepth 100000 in
theorem spec_A2Elements.calls (k : Nat) (A0 : Option Addr) (c0 : Nat) (l0 : List Int) (a1 : Int) (a2 : Int) (r : List Int) (w : World) (hr0 : Kd.C (Kd.int .u8) w A0 l0.length l0) (hc0 : l0.length ≤ c0) (h : spec_A2Elements.f k l0 a1 a2 = some r) :
    Calls Try.prog 37 #[.slice A0 l0.length c0, .int .i64 a1, .int .i64 a2] w fun e w' => ∃ v0_ : Value, e = .returned (v0_) ∧ Kd.R (Kd.int .i64) 2 w' w.heap.size (fun _ => True) v0_ r ∧ Below w.heap.size w w' := by
  have HR0 := Aside0.mk hr0
  have HC0 := Aside0.mk hc0
  clear hr0 hc0
  have HB := Aside0.mk (Below.refl w.heap.size w)
  have H : ((spec_l00From.f l0).bind fun bt601 => (spec_A2Elements.l0 k a1 a2 (([] : List Int)) 0 bt601.1 bt601.2.1 bt601.2.2)) = some r := h
  clear h
  replace H := Option.bind_eq_some_iff.mp H
  obtain ⟨⟨t601, t602, t603⟩, A40, H⟩ := H
  replace H : (spec_A2Elements.l0 k a1 a2 (([] : List Int)) 0 t601 t602 t603) = some r := H
  have A4 := Aside0.mk A40
  clear A40
  obtain ⟨y605, hy605⟩ : ∃ y_ : List Int, y_ = (([] : List Int)) := ⟨_, rfl⟩
  replace H : (spec_A2Elements.l0 k a1 a2 y605 0 t601 t602 t603) = some r := by first | (rw [hy605]; with_reducible exact H) | (have H2_ := (Option.bind_some _ _).symm.trans H; rw [hy605]; with_reducible exact H2_) | (have H2_ := (Option.bind_some _ _).symm.trans H; with_reducible exact H2_) | with_reducible exact H | (rw [hy605]; exact H) | exact H
  have Ny605 := Aside0.mk hy605
  clear hy605
  have H' := Aside0.mk H
  clear H
  go_enter Try.func37, Try.ntmps37
  go_wp2_with (first | ((with_reducible refine gate_callee (f := 79) rfl ?_); refine goesL_ (some 11) rfl rfl Try.func79 (by kernel_rfl) rfl #[.slice A0 l0.length c0] rfl (by (try simp only [List.map_toArray, List.map_cons, List.map_nil]); first | done | rfl | (simp only [List.length_drop, List.length_take]; rfl)) ?_; (with_reducible refine (spec_l00From.calls _ _ l0 t601 t602 t603 w _ ?side1 ?side2 ?side3 A4.out).mono ?_); (case side1 => repeat (first | (with_reducible first | exact HB.out | apply below_alloc | apply pw_below_drewN | apply below_drew1) | exact HB.out)); (case side2 => exact HR0.out); (case side3 => exact HC0.out); rintro e w5 ⟨g604, rfl, hi, hb, hb2⟩; refine ⟨_, rfl, ?_⟩; have n0_ := Aside0.mk (hb); have n1_ := Aside0.mk (hi); clear HB; have HB := n0_; have HI604 := n1_; clear n0_ n1_; (try clear hb); (try clear hb2); (try clear hk); (try clear hi)) | ((with_reducible refine gate_dst (N := 12) rfl ?_); refine Kd.R_lit (Kd.int .i64) _ 2 ?hg (N := 12) ?hd (xs := ([] : List Int)) (inner := []) (ok := fun _ => True) (okp := fun _ => True) ?hr ?hp (fun _ hk => hk) trivial (Below.refl _ _) (Nat.le_refl _) (by simp) ?_; (case hd => rfl); (case hg => rfl); (case hr => first | (go_simp; done) | (go_simp; rfl)); (case hp => exact (Reps.none _ _)); intro v606 w6 ho7 hb hg_ hnew_; clear hg_ hnew_; (first | rw [← Ny605.out] at ho7 | (simp only [Int.reduceToNat] at ho7; rw [← Ny605.out] at ho7)); have n0_ := Aside0.mk (Kd.R_lower ho7 (below_size (by repeat (first | (with_reducible first | exact HB.out | apply below_alloc | apply pw_below_drewN | apply below_drew1 | refine below_set ?_ (IsS113.ge HI604.out)) | exact HB.out)))); have n1_ := Aside0.mk (IsS113.below (by repeat (first | (with_reducible first | exact HI604.out | apply IsS113.alloc | apply IsS113.drewN | apply IsS113.drew | apply IsS113.set_1 | apply IsS113.set_2) | exact HI604.out)) hb); have n2_ := Aside0.mk (below_step (by repeat (first | (with_reducible first | exact HB.out | apply below_alloc | apply pw_below_drewN | apply below_drew1 | refine below_set ?_ (IsS113.ge HI604.out)) | exact HB.out)) hb); clear HI604; clear HB; have HO607 := n0_; have HI604 := n1_; have HB := n2_; clear n0_ n1_ n2_; clear hb ho7))
  go_loopg [8, 9] k (fun kq v8 v9 w' => ∃ (x8_1 : List Int) (x9_1 : Int) (x605001_1 : Int) (x605002_1 : Int), v9 = .int .i64 x9_1 ∧ Aside0 (spec_A2Elements.l0 kq a1 a2 x8_1 x9_1 t601 x605001_1 x605002_1 = some r) ∧ Aside0 (kq ≤ k) ∧ Aside0 (Kd.R (Kd.int .i64) 2 w' w.heap.size (fun _ => True) v8 x8_1) ∧ Aside0 (IsS113 w w' g604 t601 x605001_1 x605002_1) ∧ Aside0 (Below w.heap.size w w'))
  case atStart => exact ⟨(y605), (0), (t602), (t603), (by first | rfl | (simp; done) | (simp [*]; done)), H', ⟨Nat.le_refl _⟩, ⟨by (with_reducible repeat (first | apply Kd.R_alloc | apply Kd.R_drewN | apply Kd.R_drew)); exact HO607.out⟩, ⟨by repeat (first | (with_reducible first | exact HI604.out | apply IsS113.alloc | apply IsS113.drewN | apply IsS113.drew | apply IsS113.set_1 | apply IsS113.set_2) | exact HI604.out)⟩, ⟨by repeat (first | (with_reducible first | exact HB.out | apply below_alloc | apply pw_below_drewN | apply below_drew1 | refine below_set ?_ (IsS113.ge HI604.out)) | exact HB.out)⟩⟩
  case round =>
    clear H'
    try clear p2
    try clear c3
    try clear c7
    obtain ⟨x8_1, x9_1, x605001_1, x605002_1, rfl, HA, HK1, HO_8, HI604, HB⟩ := hrel
    cases gk with
    | zero => exact absurd HA.out (by simp [spec_A2Elements.l0])
    | succ k1 =>
      have H := HA.out
      clear HA
      simp only [spec_A2Elements.l0] at H
      by_cases c8 : x9_1 < a2
      · rw [if_pos c8] at H
        have c8b0 : decide (x9_1 < a2) = true := decide_eq_true c8
        clear c8
        replace H := Option.bind_eq_some_iff.mp H
        obtain ⟨⟨t608, t609, t610⟩, A90, H⟩ := H
        replace H : (if x8_1.length < 17592186044416 then (spec_A2Elements.l0 k1 a1 a2 (x8_1 ++ [t608]) (wrap64 (x9_1 + 1)) t601 t609 t610) else (none)) = some r := H
        have A9 := Aside0.mk A90
        clear A90
        by_cases c10 : x8_1.length < 17592186044416
        · rw [if_pos c10] at H
          have LMc10 := Aside0.mk c10
          clear c10
          obtain ⟨y611, hy611⟩ : ∃ y_ : List Int, y_ = (x8_1 ++ [t608]) := ⟨_, rfl⟩
          replace H : (spec_A2Elements.l0 k1 a1 a2 y611 (wrap64 (x9_1 + 1)) t601 t609 t610) = some r := by first | (rw [hy611]; with_reducible exact H) | (have H2_ := (Option.bind_some _ _).symm.trans H; rw [hy611]; with_reducible exact H2_) | (have H2_ := (Option.bind_some _ _).symm.trans H; with_reducible exact H2_) | with_reducible exact H | (rw [hy611]; exact H) | exact H
          have Ny611 := Aside0.mk hy611
          clear hy611
          have H' := Aside0.mk H
          clear H
          go_wp2_with (first | ((with_reducible refine gate_callee (f := 80) rfl ?_); refine goesL_ (some 21) rfl rfl Try.func80 (by kernel_rfl) rfl #[.pointer (some ⟨g604, 0, none⟩), .int .i64 a1] rfl (by (try simp only [List.map_toArray, List.map_cons, List.map_nil]); first | done | rfl | (simp only [List.length_drop, List.length_take]; rfl)) ?_; (with_reducible refine (spec_l00Src_pick.calls g604 t601 x605001_1 x605002_1 a1 t608 t609 t610 w _ ?side1 ?side2 A9.out).mono ?_); (case side1 => repeat (first | (with_reducible first | exact HI604.out | apply IsS113.alloc | apply IsS113.drewN | apply IsS113.drew | apply IsS113.set_1 | apply IsS113.set_2) | exact HI604.out)); (case side2 => repeat (first | (with_reducible first | exact HB.out | apply below_alloc | apply pw_below_drewN | apply below_drew1 | refine below_set ?_ (IsS113.ge HI604.out)) | exact HB.out)); rintro e w11 ⟨rfl, hi, hb, hk⟩; refine ⟨_, rfl, ?_⟩; have n0_ := Aside0.mk (Kd.R_mono (Kd.R_keep (IsS113.apart (show IsS113 w _ g604 t601 x605001_1 x605002_1 from by repeat (first | (with_reducible first | exact HI604.out | apply IsS113.alloc | apply IsS113.drewN | apply IsS113.drew | apply IsS113.set_1 | apply IsS113.set_2) | exact HI604.out)) (by (with_reducible repeat (first | apply Kd.R_alloc | apply Kd.R_drewN | apply Kd.R_drew)); exact HO_8.out) (by decide)) hk (fun _ h => h.2)) (fun _ h => h.1)); have n1_ := Aside0.mk (hb); have n2_ := Aside0.mk (hi); clear HO_8; clear HB; clear HI604; have HO_8 := n0_; have HB := n1_; have HI604 := n2_; clear n0_ n1_ n2_; (try clear hb); (try clear hb2); (try clear hk); (try clear hi)) | ((with_reducible refine gate_builtin (b := .append) (xs := #[.tmp 18, .tmp 22]) rfl ?_); at_builtin; refine Kd.R_append (Kd.int .i64) (w0 := w) w.heap.size rfl (.tmp 18) (.tmp 22) 35 2 (.int .i64 0) 8 rfl Try.underlying35 info2 rfl (by decide) (by omega) u8 x8_1 t608 [.int .i64 t608] (fun _ => True) (fun _ => False) rfl rfl ?aP (fun _ hk => hk.elim) ?aF ?aO ?aB ?aS ?aL ?_; (case aP => exact rfl); (case aB => exact (by repeat (first | (with_reducible first | exact HB.out | apply below_alloc | apply pw_below_drewN | apply below_drew1 | refine below_set ?_ (IsS113.ge HI604.out)) | exact HB.out))); (case aF => exact (fun _ _ => trivial)); (case aO => exact (by (with_reducible repeat (first | apply Kd.R_alloc | apply Kd.R_drewN | apply Kd.R_drew)); exact HO_8.out)); (case aS => exact (below_size (by repeat (first | (with_reducible first | exact HB.out | apply below_alloc | apply pw_below_drewN | apply below_drew1 | refine below_set ?_ (IsS113.ge HI604.out)) | exact HB.out)))); (case aL => have := LMc10.out; omega); intro v612 w12 ho hb hg hat; rw [← Ny611.out] at ho; have n0_ := Aside0.mk (IsS113.grown (by repeat (first | (with_reducible first | exact HI604.out | apply IsS113.alloc | apply IsS113.drewN | apply IsS113.drew | apply IsS113.set_1 | apply IsS113.set_2) | exact HI604.out)) hg (IsS113.own_ne HI604.out HO_8.out (by decide))); have n1_ := Aside0.mk (hb); have n2_ := Aside0.mk (ho); clear HI604; clear HB; clear HO_8; have HI604 := n0_; have HB := n1_; have HO613 := n2_; clear n0_ n1_ n2_; clear ho hb hg hat))
          go_roundg k1
          case measure => have := HK1.out; omega
          case rel => exact ⟨(y611), (wrap64 (x9_1 + 1)), (t609), (t610), (by first | rfl | (simp; done) | (simp [*]; done)), H', ⟨by have := HK1.out; omega⟩, ⟨by (with_reducible repeat (first | apply Kd.R_alloc | apply Kd.R_drewN | apply Kd.R_drew)); exact HO613.out⟩, ⟨by repeat (first | (with_reducible first | exact HI604.out | apply IsS113.alloc | apply IsS113.drewN | apply IsS113.drew | apply IsS113.set_1 | apply IsS113.set_2) | exact HI604.out)⟩, ⟨by repeat (first | (with_reducible first | exact HB.out | apply below_alloc | apply pw_below_drewN | apply below_drew1 | refine below_set ?_ (IsS113.ge HI604.out)) | exact HB.out)⟩⟩
        · rw [if_neg c10] at H
          exact absurd H (by simp)
      · rw [if_neg c8] at H
        have c8b0 : decide (x9_1 < a2) = false := decide_eq_false c8
        clear c8
        obtain rfl := Option.some.inj H
        go_wp2
        go_ret
        exact ⟨_, by first | rfl | (simp [errW_none, errW_some] <;> rfl) | (simp [*, errW_none, errW_some] <;> rfl), by (with_reducible repeat (first | apply Kd.R_alloc | apply Kd.R_drewN | apply Kd.R_drew)); exact HO_8.out, by repeat (first | (with_reducible first | exact HB.out | apply below_alloc | apply pw_below_drewN | apply below_drew1 | refine below_set ?_ (IsS113.ge HI604.out)) | exact HB.out)⟩

end Go.Proofs.Ytjpbemomocccaaa.P

namespace Go.Proofs.Ytjpbemomocccaaa.P
open Go.RowKit Go.Proofs.YtjpbemomocccaaaW.PrintWords Go.Proofs.YtjpbemomocccaaaW.PrintLast Go.Proofs.YtjpbemomocccaaaW.PrintMore
attribute [local go_sem] max2_int min2_int max_two min_two max_three min_three max_four min_four
set_option linter.unusedVariables false
set_option linter.unusedSimpArgs false

/-! ### laws_a2Dot: function 38 -/
def laws_a2Dot.l0 : Nat → Int → List Int → List Int → Int → Int → Option (Int)
  | 0, _, _, _, _, _ => none
  | k + 1, x0, x1, x2, x7, x8 => if x8 < (x1.length : Int) then (if x8 < (x2.length : Int) then (if 0 ≤ x8 then (if x0 = 0 then (none) else (laws_a2Dot.l0 k x0 x1 x2 (Int.tmod (wrap64 (x7 + (wrap64 ((rd x1 x8) * (rd x2 x8))))) x0) (wrap64 (x8 + 1)))) else (none)) else (some x7)) else (some x7)
def laws_a2Dot.f (k : Nat) (a0 : Int) (l1 : List Int) (l2 : List Int) : Option (Int) := laws_a2Dot.l0 k a0 l1 l2 0 0
set_option maxHeartbeats 8000000 in
set_option maxRecDepth 100000 in
theorem laws_a2Dot.calls (k : Nat) (a0 : Int) (A1 : Option Addr) (c1 : Nat) (l1 : List Int) (A2 : Option Addr) (c2 : Nat) (l2 : List Int) (r : Int) (w : World) (hr1 : Kd.C (Kd.int .i64) w A1 l1.length l1) (hc1 : l1.length ≤ c1) (hr2 : Kd.C (Kd.int .i64) w A2 l2.length l2) (hc2 : l2.length ≤ c2) (h : laws_a2Dot.f k a0 l1 l2 = some r) :
    Calls Try.prog 38 #[.int .i64 a0, .slice A1 l1.length c1, .slice A2 l2.length c2] w fun e w' => e = .returned (.int .i64 r) ∧ Drawn0 w w' := by
  have HR1 := Aside0.mk hr1
  have HC1 := Aside0.mk hc1
  clear hr1 hc1
  have HR2 := Aside0.mk hr2
  have HC2 := Aside0.mk hc2
  clear hr2 hc2
  have H : (laws_a2Dot.l0 k a0 l1 l2 0 0) = some r := h
  clear h
  have H' := Aside0.mk H
  clear H
  go_enter Try.func38, Try.ntmps38
  go_wp2
  repeat (go_quiet (fail); try go_wp2)
  go_loopg [7, 8] k (fun kq v7 v8 w' => ∃ (x7_1 : Int) (x8_1 : Int), v7 = .int .i64 x7_1 ∧ v8 = .int .i64 x8_1 ∧ Aside0 (laws_a2Dot.l0 kq a0 l1 l2 x7_1 x8_1 = some r) ∧ Aside0 (kq ≤ k) ∧ Drawn0 w w')
  case atStart => exact ⟨(0), (0), (by first | rfl | (simp; done) | (simp [*]; done)), (by first | rfl | (simp; done) | (simp [*]; done)), H', ⟨Nat.le_refl _⟩, by repeat (first | exact Drawn0.refl _ | apply Drawn0.step)⟩
  case round =>
    clear H'
    try clear c1
    try clear c2
    try clear p2
    try clear c3
    obtain ⟨x7_1, x8_1, rfl, rfl, HA, HK1, ⟨m1, rfl⟩⟩ := hrel
    cases gk with
    | zero => exact absurd HA.out (by simp [laws_a2Dot.l0])
    | succ k1 =>
      have H := HA.out
      clear HA
      simp only [laws_a2Dot.l0] at H
      by_cases c4 : x8_1 < (l1.length : Int)
      · rw [if_pos c4] at H
        have c4b0 : decide (x8_1 < (l1.length : Int)) = true := decide_eq_true c4
        clear c4
        by_cases c5 : x8_1 < (l2.length : Int)
        · rw [if_pos c5] at H
          have c5b0 : decide (x8_1 < (l2.length : Int)) = true := decide_eq_true c5
          clear c5
          by_cases c6 : 0 ≤ x8_1
          · rw [if_pos c6] at H
            have c6b0 : decide (0 ≤ x8_1) = true := decide_eq_true c6
            clear c6
            by_cases c7 : a0 = 0
            · rw [if_pos c7] at H
              exact absurd H (by simp)
            · rw [if_neg c7] at H
              have c7b0 : (a0 == 0) = false := beq_eq_false_iff_ne.mpr c7
              have c7b1 : (a0 != 0) = true := bne_iff_ne.mpr c7
              have H' := Aside0.mk H
              clear H
              have p614 : 0 ≤ (x8_1 : Int) := of_decide_eq_true (by first | (with_reducible assumption) | assumption)
              have q614 : x8_1 < (l1.length : Int) := of_decide_eq_true (by first | (with_reducible assumption) | assumption)
              obtain ⟨ad614, e614, hx614_0⟩ := Kd.at_int HR1.out x8_1 p614 q614
              cases e614
              replace p614 := eq_true p614
              replace q614 := eq_true q614
              have p615 : 0 ≤ (x8_1 : Int) := of_decide_eq_true (by first | (with_reducible assumption) | assumption)
              have q615 : x8_1 < (l2.length : Int) := of_decide_eq_true (by first | (with_reducible assumption) | assumption)
              obtain ⟨ad615, e615, hx615_0⟩ := Kd.at_int HR2.out x8_1 p615 q615
              cases e615
              replace p615 := eq_true p615
              replace q615 := eq_true q615
              go_wp2
              repeat (go_quiet (fail); try go_wp2)
              go_roundg k1
              case measure => have := HK1.out; omega
              case rel => exact ⟨(Int.tmod (wrap64 (x7_1 + (wrap64 ((rd l1 x8_1) * (rd l2 x8_1))))) a0), (wrap64 (x8_1 + 1)), (by first | rfl | (simp; done) | (simp [*]; done)), (by first | rfl | (simp; done) | (simp [*]; done)), H', ⟨by have := HK1.out; omega⟩, by repeat (first | exact Drawn0.refl _ | apply Drawn0.step)⟩
          · rw [if_neg c6] at H
            exact absurd H (by simp)
        · rw [if_neg c5] at H
          have c5b0 : decide (x8_1 < (l2.length : Int)) = false := decide_eq_false c5
          clear c5
          obtain rfl := Option.some.inj H
          go_wp2
          repeat (go_quiet (fail); try go_wp2)
          go_ret
          exact ⟨by first | rfl | (simp; done) | (simp [*]; done), by repeat (first | exact Drawn0.refl _ | apply Drawn0.step)⟩
      · rw [if_neg c4] at H
        have c4b0 : decide (x8_1 < (l1.length : Int)) = false := decide_eq_false c4
        clear c4
        obtain rfl := Option.some.inj H
        go_wp2
        repeat (go_quiet (fail); try go_wp2)
        go_ret
        exact ⟨by first | rfl | (simp; done) | (simp [*]; done), by repeat (first | exact Drawn0.refl _ | apply Drawn0.step)⟩

end Go.Proofs.Ytjpbemomocccaaa.P

namespace Go.Proofs.Ytjpbemomocccaaa.P
open Go.RowKit Go.Proofs.YtjpbemomocccaaaW.PrintWords Go.Proofs.YtjpbemomocccaaaW.PrintLast Go.Proofs.YtjpbemomocccaaaW.PrintMore
attribute [local go_sem] max2_int min2_int max_two min_two max_three min_three max_four min_four
set_option linter.unusedVariables false
set_option linter.unusedSimpArgs false

/-! ### laws_FnCombination: function 10 -/
mutual
def laws_FnCombination.j0 : Nat → Int → List Int → Bool → List Int → Bool → Int → Int → List (List Int) → Option (Bool)
  | 0, _, _, _, _, _, _, _, _ => none
  | k + 1, x6, x7, x8, x10, x61, x623000, x623001, x623002 => if x61 = true then (some false) else (if x8 = true then (if (x10.length : Int) = x6 then (laws_FnCombination.l0 k x6 x7 x10 0 x623000 x623001 x623002) else (some false)) else (laws_FnCombination.j3 k x6 x7 x623000 x623001 x623002))
def laws_FnCombination.j3 : Nat → Int → List Int → Int → Int → List (List Int) → Option (Bool)
  | 0, _, _, _, _, _ => none
  | k + 1, x6, x7, x623000, x623001, x623002 => laws_FnCombination.l2 k x6 x7 (([] : List Int)) 0 x623000 x623001 x623002
def laws_FnCombination.l2 : Nat → Int → List Int → List Int → Int → Int → Int → List (List Int) → Option (Bool)
  | 0, _, _, _, _, _, _, _ => none
  | k + 1, x6, x7, x15, x16, x623000, x623001, x623002 => if x16 < x6 then (if 0 ≤ x16 then (if x16 < (x623002.length : Int) then ((laws_a2Dot.f k x623000 (rd_L1 x623002 x16) x7).bind fun t640 => (if x15.length < 17592186044416 then (laws_FnCombination.l2 k x6 x7 (x15 ++ [t640]) (wrap64 (x16 + 1)) x623000 x623001 x623002) else (none))) else (none)) else (none)) else ((impl_SolveFor.f k x623000 x623001 x623002 x15).bind fun bt644 => (if bt644.2 = 0 then (laws_FnCombination.j5 k x6 x15 bt644.1 ((bt644.1.length : Int) != x623001) x623000 x623001 x623002) else (laws_FnCombination.j5 k x6 x15 bt644.1 true x623000 x623001 x623002)))
def laws_FnCombination.j5 : Nat → Int → List Int → List Int → Bool → Int → Int → List (List Int) → Option (Bool)
  | 0, _, _, _, _, _, _, _ => none
  | k + 1, x6, x15, x17, x134, x623000, x623001, x623002 => if x134 = true then (some false) else (laws_FnCombination.l3 k x6 x15 x17 0 x623000 x623001 x623002)
def laws_FnCombination.l3 : Nat → Int → List Int → List Int → Int → Int → Int → List (List Int) → Option (Bool)
  | 0, _, _, _, _, _, _, _ => none
  | k + 1, x6, x15, x17, x19, x623000, x623001, x623002 => if x19 < x6 then (if 0 ≤ x19 then (if x19 < (x623002.length : Int) then ((laws_a2Dot.f k x623000 (rd_L1 x623002 x19) x17).bind fun t649 => (if x19 < (x15.length : Int) then (if t649 = (rd x15 x19) then (laws_FnCombination.l3 k x6 x15 x17 (wrap64 (x19 + 1)) x623000 x623001 x623002) else (some false)) else (none))) else (none)) else (none)) else (some true)
def laws_FnCombination.l0 : Nat → Int → List Int → List Int → Int → Int → Int → List (List Int) → Option (Bool)
  | 0, _, _, _, _, _, _, _ => none
  | k + 1, x6, x7, x10, x12, x623000, x623001, x623002 => if x12 < x623001 then (laws_FnCombination.l1 k x6 x7 x10 x12 0 0 x623000 x623001 x623002) else (laws_FnCombination.j3 k x6 x7 x623000 x623001 x623002)
def laws_FnCombination.l1 : Nat → Int → List Int → List Int → Int → Int → Int → Int → Int → List (List Int) → Option (Bool)
  | 0, _, _, _, _, _, _, _, _, _ => none
  | k + 1, x6, x7, x10, x12, x13, x14, x623000, x623001, x623002 => if x14 < x6 then (if 0 ≤ x14 then (if x14 < (x10.length : Int) then (if x14 < (x623002.length : Int) then (if 0 ≤ x12 then (if x12 < ((rd_L1 x623002 x14).length : Int) then (if x623000 = 0 then (none) else (laws_FnCombination.l1 k x6 x7 x10 x12 (Int.tmod (wrap64 (x13 + (wrap64 ((rd x10 x14) * (rd (rd_L1 x623002 x14) x12))))) x623000) (wrap64 (x14 + 1)) x623000 x623001 x623002)) else (none)) else (none)) else (none)) else (none)) else (none)) else (if 0 ≤ x12 then (if x12 < (x7.length : Int) then (if x13 = (rd x7 x12) then (laws_FnCombination.l0 k x6 x7 x10 (wrap64 (x12 + 1)) x623000 x623001 x623002) else (some false)) else (none)) else (none))
end
def laws_FnCombination.f (k : Nat) (l0 : List Int) (l1 : List Int) : Option (Bool) := (laws_a2Long.f l0 l1).bind fun t616 => (if t616 = true then (some true) else ((spec_A2Matrix.f k l0).bind fun bt617 => ((spec_A2Elements.f k l1 bt617.1 bt617.2.1).bind fun t623 => ((impl_IsSpanned.f k bt617.1 bt617.2.1 bt617.2.2 t623).bind fun bt626 => ((impl_Combination.f k bt617.1 bt617.2.1 bt617.2.2 t623).bind fun bt628 => (if bt626.2 = 0 then (if (bt626.1 != (bt628.2 == 0)) = true then (laws_FnCombination.j0 k (bt617.2.2.length : Int) t623 bt626.1 bt628.1 true bt617.1 bt617.2.1 bt617.2.2) else (if bt628.2 = 0 then (laws_FnCombination.j0 k (bt617.2.2.length : Int) t623 bt626.1 bt628.1 false bt617.1 bt617.2.1 bt617.2.2) else (laws_FnCombination.j0 k (bt617.2.2.length : Int) t623 bt626.1 bt628.1 (bt628.2 != 6) bt617.1 bt617.2.1 bt617.2.2))) else (laws_FnCombination.j0 k (bt617.2.2.length : Int) t623 bt626.1 bt628.1 true bt617.1 bt617.2.1 bt617.2.2)))))))
def laws_FnCombination.T20 : Bool × List (List Nat × List Nat) := (true, [([], []), ([], []), ([], []), ([1, 2], [1, 2]), ([3], [3]), ([], []), ([5], [5]), ([], []), ([6, 7], [6, 7]), ([8], [8]), ([], []), ([9, 10], [9, 10]), ([11], [11]), ([4, 12], [4, 12]), ([0, 13], [0, 13]), ([], []), ([15], [15]), ([14, 16], [14, 16]), ([17, 0, 1, 2, 3, 4, 5, 6, 7, 8, 9, 10, 11, 12, 13, 14, 15, 16, 17], [0, 17])])
def laws_FnCombination.B20 : List Nat := [0, 0, 0, 6, 14, 0, 32, 0, 224, 480, 0, 2016, 4064, 8190, 16383, 0, 32768, 131071, 262143]
theorem laws_FnCombination.tab20 : rtab .any (opsOf Try.f10 20) = laws_FnCombination.T20 := by kernel_rfl
theorem laws_FnCombination.bits20 : waitsOk laws_FnCombination.T20.2 laws_FnCombination.B20 = true := by kernel_rfl
def laws_FnCombination.T27 : Bool × List (List Nat × List Nat) := (true, [([], []), ([], []), ([1], [1]), ([], []), ([3], [3]), ([], []), ([4, 5], [4, 5]), ([6], [6]), ([], []), ([2, 7, 8], [2, 7, 8]), ([9], [9]), ([0, 10, 9], [0, 10]), ([11, 11, 0, 1, 2, 3, 4, 5, 6, 7, 8, 9, 10, 11], [0, 11])])
def laws_FnCombination.B27 : List Nat := [0, 0, 2, 0, 8, 0, 56, 120, 0, 510, 1022, 2047, 4095]
theorem laws_FnCombination.tab27 : rtab .any (opsOf Try.f10 27) = laws_FnCombination.T27 := by kernel_rfl
theorem laws_FnCombination.bits27 : waitsOk laws_FnCombination.T27.2 laws_FnCombination.B27 = true := by kernel_rfl
def laws_FnCombination.T34 : Bool × List (List Nat × List Nat) := (true, [([], []), ([0], [0]), ([], []), ([2], [2]), ([], []), ([3, 4], [3, 4]), ([5], [5]), ([], []), ([1, 6, 7], [1, 6, 7]), ([], []), ([], []), ([9, 10], [9, 10]), ([11], [11]), ([8, 12], [8, 12])])
def laws_FnCombination.B34 : List Nat := [0, 1, 0, 4, 0, 28, 60, 0, 255, 0, 0, 1536, 3584, 8191]
theorem laws_FnCombination.tab34 : rtab .any (opsOf Try.f10 34) = laws_FnCombination.T34 := by kernel_rfl
theorem laws_FnCombination.bits34 : waitsOk laws_FnCombination.T34.2 laws_FnCombination.B34 = true := by kernel_rfl
set_option maxHeartbeats 8000000 in
set_option maxRecDepth 100000 in
theorem laws_FnCombination.calls (k : Nat) (A0 : Option Addr) (c0 : Nat) (l0 : List Int) (A1 : Option Addr) (c1 : Nat) (l1 : List Int) (r : Bool) (w : World) (hr0 : Kd.C (Kd.int .u8) w A0 l0.length l0) (hc0 : l0.length ≤ c0) (hr1 : Kd.C (Kd.int .u8) w A1 l1.length l1) (hc1 : l1.length ≤ c1) (h : laws_FnCombination.f k l0 l1 = some r) :
    Calls Try.prog 10 #[.slice A0 l0.length c0, .slice A1 l1.length c1] w fun e w' => e = .returned (.bool r) ∧ Below w.heap.size w w' := by
  have hu26 := Try.underlying26
  have HR0 := Aside0.mk hr0
  have HC0 := Aside0.mk hc0
  clear hr0 hc0
  have HR1 := Aside0.mk hr1
  have HC1 := Aside0.mk hc1
  clear hr1 hc1
  have HB := Aside0.mk (Below.refl w.heap.size w)
  have H : ((laws_a2Long.f l0 l1).bind fun t616 => (if t616 = true then (some true) else ((spec_A2Matrix.f k l0).bind fun bt617 => ((spec_A2Elements.f k l1 bt617.1 bt617.2.1).bind fun t623 => ((impl_IsSpanned.f k bt617.1 bt617.2.1 bt617.2.2 t623).bind fun bt626 => ((impl_Combination.f k bt617.1 bt617.2.1 bt617.2.2 t623).bind fun bt628 => (if bt626.2 = 0 then (if (bt626.1 != (bt628.2 == 0)) = true then (laws_FnCombination.j0 k (bt617.2.2.length : Int) t623 bt626.1 bt628.1 true bt617.1 bt617.2.1 bt617.2.2) else (if bt628.2 = 0 then (laws_FnCombination.j0 k (bt617.2.2.length : Int) t623 bt626.1 bt628.1 false bt617.1 bt617.2.1 bt617.2.2) else (laws_FnCombination.j0 k (bt617.2.2.length : Int) t623 bt626.1 bt628.1 (bt628.2 != 6) bt617.1 bt617.2.1 bt617.2.2))) else (laws_FnCombination.j0 k (bt617.2.2.length : Int) t623 bt626.1 bt628.1 true bt617.1 bt617.2.1 bt617.2.2)))))))) = some r := h
  clear h
  replace H := Option.bind_eq_some_iff.mp H
  obtain ⟨t616, A30, H⟩ := H
  replace H : (if t616 = true then (some true) else ((spec_A2Matrix.f k l0).bind fun bt617 => ((spec_A2Elements.f k l1 bt617.1 bt617.2.1).bind fun t623 => ((impl_IsSpanned.f k bt617.1 bt617.2.1 bt617.2.2 t623).bind fun bt626 => ((impl_Combination.f k bt617.1 bt617.2.1 bt617.2.2 t623).bind fun bt628 => (if bt626.2 = 0 then (if (bt626.1 != (bt628.2 == 0)) = true then (laws_FnCombination.j0 k (bt617.2.2.length : Int) t623 bt626.1 bt628.1 true bt617.1 bt617.2.1 bt617.2.2) else (if bt628.2 = 0 then (laws_FnCombination.j0 k (bt617.2.2.length : Int) t623 bt626.1 bt628.1 false bt617.1 bt617.2.1 bt617.2.2) else (laws_FnCombination.j0 k (bt617.2.2.length : Int) t623 bt626.1 bt628.1 (bt628.2 != 6) bt617.1 bt617.2.1 bt617.2.2))) else (laws_FnCombination.j0 k (bt617.2.2.length : Int) t623 bt626.1 bt628.1 true bt617.1 bt617.2.1 bt617.2.2))))))) = some r := H
  have A3 := Aside0.mk A30
  clear A30
  by_cases c4 : t616 = true
  · subst c4
    have H1 : (some true) = some r := by rw [if_pos rfl] at H; exact H
    clear H
    have H := H1
    clear H1
    obtain rfl := Option.some.inj H
    go_enter Try.func10, Try.ntmps10
    go_wp2_with (first | ((with_reducible refine gate_callee (f := 35) rfl ?_); refine goesL_ (some 22) rfl rfl Try.func35 (by kernel_rfl) rfl #[.slice A0 l0.length c0, .slice A1 l1.length c1] rfl (by (try simp only [List.map_toArray, List.map_cons, List.map_nil]); first | done | rfl | (simp only [List.length_drop, List.length_take]; rfl)) ?_; (with_reducible refine (laws_a2Long.calls _ _ l0 _ _ l1 true _ ?side1 ?side2 ?side3 ?side4 A3.out).mono ?_); (case side1 => repeat (first | exact HR0.out | (with_reducible refine Kd.C_alloc ?_ _) | (with_reducible refine Kd.C_drewN ?_ _) | (with_reducible refine Kd.C_drew ?_))); (case side2 => exact HC0.out); (case side3 => repeat (first | exact HR1.out | (with_reducible refine Kd.C_alloc ?_ _) | (with_reducible refine Kd.C_drewN ?_ _) | (with_reducible refine Kd.C_drew ?_))); (case side4 => exact HC1.out); rintro e w' ⟨rfl, ⟨nd, rfl⟩⟩; refine ⟨_, rfl, ?_⟩))
    go_ret
    exact ⟨by first | rfl | (simp [errW_none, errW_some] <;> rfl) | (simp [*, errW_none, errW_some] <;> rfl), by repeat (first | (with_reducible first | exact HB.out | apply below_alloc | apply pw_below_drewN | apply below_drew1) | exact HB.out)⟩
  · replace c4 := Bool.eq_false_iff.mpr c4
    subst c4
    have H1 : ((spec_A2Matrix.f k l0).bind fun bt617 => ((spec_A2Elements.f k l1 bt617.1 bt617.2.1).bind fun t623 => ((impl_IsSpanned.f k bt617.1 bt617.2.1 bt617.2.2 t623).bind fun bt626 => ((impl_Combination.f k bt617.1 bt617.2.1 bt617.2.2 t623).bind fun bt628 => (if bt626.2 = 0 then (if (bt626.1 != (bt628.2 == 0)) = true then (laws_FnCombination.j0 k (bt617.2.2.length : Int) t623 bt626.1 bt628.1 true bt617.1 bt617.2.1 bt617.2.2) else (if bt628.2 = 0 then (laws_FnCombination.j0 k (bt617.2.2.length : Int) t623 bt626.1 bt628.1 false bt617.1 bt617.2.1 bt617.2.2) else (laws_FnCombination.j0 k (bt617.2.2.length : Int) t623 bt626.1 bt628.1 (bt628.2 != 6) bt617.1 bt617.2.1 bt617.2.2))) else (laws_FnCombination.j0 k (bt617.2.2.length : Int) t623 bt626.1 bt628.1 true bt617.1 bt617.2.1 bt617.2.2)))))) = some r := by rw [if_neg (show ¬ (false = true) by decide)] at H; exact H
    clear H
    have H := H1
    clear H1
    replace H := Option.bind_eq_some_iff.mp H
    obtain ⟨⟨t617, t618, t619⟩, A50, H⟩ := H
    replace H : ((spec_A2Elements.f k l1 t617 t618).bind fun t623 => ((impl_IsSpanned.f k t617 t618 t619 t623).bind fun bt626 => ((impl_Combination.f k t617 t618 t619 t623).bind fun bt628 => (if bt626.2 = 0 then (if (bt626.1 != (bt628.2 == 0)) = true then (laws_FnCombination.j0 k (t619.length : Int) t623 bt626.1 bt628.1 true t617 t618 t619) else (if bt628.2 = 0 then (laws_FnCombination.j0 k (t619.length : Int) t623 bt626.1 bt628.1 false t617 t618 t619) else (laws_FnCombination.j0 k (t619.length : Int) t623 bt626.1 bt628.1 (bt628.2 != 6) t617 t618 t619))) else (laws_FnCombination.j0 k (t619.length : Int) t623 bt626.1 bt628.1 true t617 t618 t619))))) = some r := H
    have A5 := Aside0.mk A50
    clear A50
    replace H := Option.bind_eq_some_iff.mp H
    obtain ⟨t623, A60, H⟩ := H
    replace H : ((impl_IsSpanned.f k t617 t618 t619 t623).bind fun bt626 => ((impl_Combination.f k t617 t618 t619 t623).bind fun bt628 => (if bt626.2 = 0 then (if (bt626.1 != (bt628.2 == 0)) = true then (laws_FnCombination.j0 k (t619.length : Int) t623 bt626.1 bt628.1 true t617 t618 t619) else (if bt628.2 = 0 then (laws_FnCombination.j0 k (t619.length : Int) t623 bt626.1 bt628.1 false t617 t618 t619) else (laws_FnCombination.j0 k (t619.length : Int) t623 bt626.1 bt628.1 (bt628.2 != 6) t617 t618 t619))) else (laws_FnCombination.j0 k (t619.length : Int) t623 bt626.1 bt628.1 true t617 t618 t619)))) = some r := H
    have A6 := Aside0.mk A60
    clear A60
    replace H := Option.bind_eq_some_iff.mp H
    obtain ⟨⟨t626, t627⟩, A70, H⟩ := H
    replace H : ((impl_Combination.f k t617 t618 t619 t623).bind fun bt628 => (if t627 = 0 then (if (t626 != (bt628.2 == 0)) = true then (laws_FnCombination.j0 k (t619.length : Int) t623 t626 bt628.1 true t617 t618 t619) else (if bt628.2 = 0 then (laws_FnCombination.j0 k (t619.length : Int) t623 t626 bt628.1 false t617 t618 t619) else (laws_FnCombination.j0 k (t619.length : Int) t623 t626 bt628.1 (bt628.2 != 6) t617 t618 t619))) else (laws_FnCombination.j0 k (t619.length : Int) t623 t626 bt628.1 true t617 t618 t619))) = some r := H
    have A7 := Aside0.mk A70
    clear A70
    replace H := Option.bind_eq_some_iff.mp H
    obtain ⟨⟨t628, t631⟩, A80, H⟩ := H
    replace H : (if t627 = 0 then (if (t626 != (t631 == 0)) = true then (laws_FnCombination.j0 k (t619.length : Int) t623 t626 t628 true t617 t618 t619) else (if t631 = 0 then (laws_FnCombination.j0 k (t619.length : Int) t623 t626 t628 false t617 t618 t619) else (laws_FnCombination.j0 k (t619.length : Int) t623 t626 t628 (t631 != 6) t617 t618 t619))) else (laws_FnCombination.j0 k (t619.length : Int) t623 t626 t628 true t617 t618 t619)) = some r := H
    have A8 := Aside0.mk A80
    clear A80
    have HC9 := Aside0.mk H
    clear H
    go_enter Try.func10, Try.ntmps10
    go_upto_region 8 with (first | ((with_reducible refine gate_callee (f := 35) rfl ?_); refine goesL_ (some 22) rfl rfl Try.func35 (by kernel_rfl) rfl #[.slice A0 l0.length c0, .slice A1 l1.length c1] rfl (by (try simp only [List.map_toArray, List.map_cons, List.map_nil]); first | done | rfl | (simp only [List.length_drop, List.length_take]; rfl)) ?_; (with_reducible refine (laws_a2Long.calls _ _ l0 _ _ l1 false _ ?side1 ?side2 ?side3 ?side4 A3.out).mono ?_); (case side1 => repeat (first | exact HR0.out | (with_reducible refine Kd.C_alloc ?_ _) | (with_reducible refine Kd.C_drewN ?_ _) | (with_reducible refine Kd.C_drew ?_))); (case side2 => exact HC0.out); (case side3 => repeat (first | exact HR1.out | (with_reducible refine Kd.C_alloc ?_ _) | (with_reducible refine Kd.C_drewN ?_ _) | (with_reducible refine Kd.C_drew ?_))); (case side4 => exact HC1.out); rintro e w' ⟨rfl, ⟨nd, rfl⟩⟩; refine ⟨_, rfl, ?_⟩) | ((with_reducible refine gate_callee (f := 36) rfl ?_); refine goesL_ (some 24) rfl rfl Try.func36 (by kernel_rfl) rfl #[.slice A0 l0.length c0] rfl (by (try simp only [List.map_toArray, List.map_cons, List.map_nil]); first | done | rfl | (simp only [List.length_drop, List.length_take]; rfl)) ?_; (with_reducible refine (spec_A2Matrix.calls k _ _ l0 t617 t618 t619 _ ?side1 ?side2 A5.out).mono ?_); (case side1 => repeat (first | exact HR0.out | (with_reducible refine Kd.C_alloc ?_ _) | (with_reducible refine Kd.C_drewN ?_ _) | (with_reducible refine Kd.C_drew ?_))); (case side2 => exact HC0.out); rintro e w10 ⟨v620, rfl, ho0, hb⟩; refine ⟨_, rfl, ?_⟩; have n0_ := Aside0.mk (Kd.S_lower ho0 (below_size (by repeat (first | (with_reducible first | exact HB.out | apply below_alloc | apply pw_below_drewN | apply below_drew1) | exact HB.out)))); have n1_ := Aside0.mk (below_step (by repeat (first | (with_reducible first | exact HB.out | apply below_alloc | apply pw_below_drewN | apply below_drew1) | exact HB.out)) hb); clear HB; have HO621 := n0_; have HB := n1_; clear n0_ n1_; (try clear hb); (try clear hb2); (try clear hk); (try clear hi); (try clear ho0)) | ((with_reducible refine gate_dst (N := 5) rfl ?_); (try (refine gate_guard (by rfl) ?_; dsimp only)); refine box_event ?hg (N := 5) ?hd (cs := #[.int .i64 0, .int .i64 0, .slice none 0 0]) (t := 26) ?hr ?_; (case hd => rfl); (case hg => rfl); (case hr => first | (go_simp; done) | (go_simp; rfl)); intro gb622 hg w11 hbox hb; have n0_ := Aside0.mk (Kd.S_below (by (with_reducible repeat (first | apply Kd.S_alloc | apply Kd.S_drewN | apply Kd.S_drew)); exact HO621.out) hb); have n1_ := Aside0.mk (below_step (by repeat (first | (with_reducible first | exact HB.out | apply below_alloc | apply pw_below_drewN | apply below_drew1) | exact HB.out)) hb); have n2_ := Aside0.mk (hbox); have n3_ := Aside0.mk ((by rw [hg]; exact (below_size (by repeat (first | (with_reducible first | exact HB.out | apply below_alloc | apply pw_below_drewN | apply below_drew1) | exact HB.out))) : w.heap.size ≤ gb622)); have n4_ := Aside0.mk ((by rw [hg]; exact (below_size (by repeat (first | (with_reducible first | exact HB.out | apply below_alloc | apply pw_below_drewN | apply below_drew1) | exact HB.out))) : w.heap.size ≤ gb622)); clear HO621; clear HB; have HO621 := n0_; have HB := n1_; have BK622 := n2_; have GW622 := n3_; have GE622 := n4_; clear n0_ n1_ n2_ n3_ n4_; clear hb hbox hg; have hcz12_0 : w11.cell? ⟨gb622, 0, none⟩ = some (.int .i64 0) := (blk_cell BK622.out 0).trans rfl; have hcz12_1 : w11.cell? ⟨gb622, 1, none⟩ = some (.int .i64 0) := (blk_cell BK622.out 1).trans rfl; have hcz12_2 : w11.cell? ⟨gb622, 2, none⟩ = some (.slice none 0 0) := (blk_cell BK622.out 2).trans rfl; have hfz12_0 := blk_frozen BK622.out 0; have hfz12_1 := blk_frozen BK622.out 1; have hfz12_2 := blk_frozen BK622.out 2; obtain ⟨Ao13, co13, eo13⟩ := Kd.S_slice HO621.out; subst eo13) | ((with_reducible refine gate_callee (f := 37) rfl ?_); refine goesL_ (some 33) rfl rfl Try.func37 (by kernel_rfl) rfl #[.slice A1 l1.length c1, .int .i64 t617, .int .i64 t618] rfl (by (try simp only [List.map_toArray, List.map_cons, List.map_nil]); first | done | rfl | (simp only [List.length_drop, List.length_take]; rfl)) ?_; (with_reducible refine (spec_A2Elements.calls k _ _ l1 t617 t618 t623 _ ?side1 ?side2 A6.out).mono ?_); (case side1 => exact Kd.C_below HR1.out (by repeat (first | (with_reducible first | exact HB.out | apply below_alloc | apply pw_below_drewN | apply below_drew1 | refine below_set ?_ GE622.out) | exact HB.out))); (case side2 => exact HC1.out); rintro e w14 ⟨v624, rfl, ho0, hb⟩; refine ⟨_, rfl, ?_⟩; have n0_ := Aside0.mk (Kd.S_elder' (by (with_reducible repeat (first | apply Kd.S_alloc | apply Kd.S_drewN | apply Kd.S_drew)); exact (Kd.S_mono (Kd.S_far (p := ⟨gb622, 2, none⟩) (Kd.S_far (p := ⟨gb622, 1, none⟩) (Kd.S_far (p := ⟨gb622, 0, none⟩) (Kd.S_types HO621.out BK622.out (by decide)) (fun _ hk => hk.2) (.int .i64 t617)) (fun _ hk => hk.2) (.int .i64 t618)) (fun _ hk => hk.2) (.slice Ao13 t619.length co13)) (fun _ h_ => h_.1))) (Kd.R_base ho0) hb); have n1_ := Aside0.mk (Kd.R_lower ho0 (below_size (by repeat (first | (with_reducible first | exact HB.out | apply below_alloc | apply pw_below_drewN | apply below_drew1 | refine below_set ?_ GE622.out) | exact HB.out)))); have n2_ := Aside0.mk (blk_below (g := gb622) (o := .cells #[.int .i64 t617, .int .i64 t618, .slice Ao13 t619.length co13] 26 (0, 0)) (by (with_reducible repeat (first | refine blk_drewN ?_ _ | refine blk_drew ?_ | refine blk_alloc ?_ _)); refine blk_put (cs := #[.int .i64 t617, .int .i64 t618, .slice none 0 0]) ?_ 2 _ rfl; (with_reducible repeat (first | refine blk_drewN ?_ _ | refine blk_drew ?_ | refine blk_alloc ?_ _)); refine blk_put (cs := #[.int .i64 t617, .int .i64 0, .slice none 0 0]) ?_ 1 _ rfl; (with_reducible repeat (first | refine blk_drewN ?_ _ | refine blk_drew ?_ | refine blk_alloc ?_ _)); refine blk_put (cs := #[.int .i64 0, .int .i64 0, .slice none 0 0]) ?_ 0 _ rfl; (with_reducible repeat (first | refine blk_drewN ?_ _ | refine blk_drew ?_ | refine blk_alloc ?_ _)); exact BK622.out) hb); have n3_ := Aside0.mk (below_step (by repeat (first | (with_reducible first | exact HB.out | apply below_alloc | apply pw_below_drewN | apply below_drew1 | refine below_set ?_ GE622.out) | exact HB.out)) hb); clear HO621; clear BK622; clear HB; have HO621 := n0_; have HO625 := n1_; have BK622 := n2_; have HB := n3_; clear n0_ n1_ n2_ n3_; (try clear hb); (try clear hb2); (try clear hk); (try clear hi); (try clear ho0); have hcz15_0 : w14.cell? ⟨gb622, 0, none⟩ = some (.int .i64 t617) := (blk_cell BK622.out 0).trans rfl; have hcz15_1 : w14.cell? ⟨gb622, 1, none⟩ = some (.int .i64 t618) := (blk_cell BK622.out 1).trans rfl; have hcz15_2 : w14.cell? ⟨gb622, 2, none⟩ = some (.slice Ao13 t619.length co13) := (blk_cell BK622.out 2).trans rfl; have hfz15_0 := blk_frozen BK622.out 0; have hfz15_1 := blk_frozen BK622.out 1; have hfz15_2 := blk_frozen BK622.out 2; obtain ⟨Ao16, co16, eo16⟩ := Kd.R_slice HO625.out; subst eo16) | ((with_reducible refine gate_callee (f := 27) rfl ?_); refine goesL_ (some 37) rfl rfl Try.func27 (by kernel_rfl) rfl #[.agg #[.int .i64 t617, .int .i64 t618, .slice Ao13 t619.length co13], .slice Ao16 t623.length co16] rfl (by (try simp only [List.map_toArray, List.map_cons, List.map_nil]); first | done | rfl | (simp only [List.length_drop, List.length_take]; rfl)) ?_; (with_reducible refine (impl_IsSpanned.calls k t617 t618 _ _ t619 _ _ t623 t626 t627 _ ?side1 ?side2 ?side3 ?side4 A7.out).mono ?_); (case side1 => repeat (first | exact (Kd.S_reads' HO621.out).2.2 | (with_reducible refine Kd.C_alloc ?_ _) | (with_reducible refine Kd.C_drewN ?_ _) | (with_reducible refine Kd.C_drew ?_))); (case side2 => exact (Kd.S_reads' HO621.out).2.1); (case side3 => repeat (first | exact (Kd.R_reads' HO625.out).2.2 | (with_reducible refine Kd.C_alloc ?_ _) | (with_reducible refine Kd.C_drewN ?_ _) | (with_reducible refine Kd.C_drew ?_))); (case side4 => exact (Kd.R_reads' HO625.out).2.1); rintro e w17 ⟨rfl, hb⟩; refine ⟨_, rfl, ?_⟩; have n0_ := Aside0.mk (Kd.S_below (by (with_reducible repeat (first | apply Kd.S_alloc | apply Kd.S_drewN | apply Kd.S_drew)); exact HO621.out) hb); have n1_ := Aside0.mk (Kd.R_below (by (with_reducible repeat (first | apply Kd.R_alloc | apply Kd.R_drewN | apply Kd.R_drew)); exact HO625.out) hb); have n2_ := Aside0.mk (blk_below (g := gb622) (o := .cells #[.int .i64 t617, .int .i64 t618, .slice Ao13 t619.length co13] 26 (0, 0)) (by (with_reducible repeat (first | refine blk_drewN ?_ _ | refine blk_drew ?_ | refine blk_alloc ?_ _)); exact BK622.out) hb); have n3_ := Aside0.mk (below_step (by repeat (first | (with_reducible first | exact HB.out | apply below_alloc | apply pw_below_drewN | apply below_drew1 | refine below_set ?_ GE622.out) | exact HB.out)) hb); clear HO621; clear HO625; clear BK622; clear HB; have HO621 := n0_; have HO625 := n1_; have BK622 := n2_; have HB := n3_; clear n0_ n1_ n2_ n3_; (try clear hb); (try clear hb2); (try clear hk); (try clear hi); have hcz18_0 : w17.cell? ⟨gb622, 0, none⟩ = some (.int .i64 t617) := (blk_cell BK622.out 0).trans rfl; have hcz18_1 : w17.cell? ⟨gb622, 1, none⟩ = some (.int .i64 t618) := (blk_cell BK622.out 1).trans rfl; have hcz18_2 : w17.cell? ⟨gb622, 2, none⟩ = some (.slice Ao13 t619.length co13) := (blk_cell BK622.out 2).trans rfl; have hfz18_0 := blk_frozen BK622.out 0; have hfz18_1 := blk_frozen BK622.out 1; have hfz18_2 := blk_frozen BK622.out 2) | ((with_reducible refine gate_callee (f := 30) rfl ?_); refine goesL_ (some 43) rfl rfl Try.func30 (by kernel_rfl) rfl #[.agg #[.int .i64 t617, .int .i64 t618, .slice Ao13 t619.length co13], .slice Ao16 t623.length co16] rfl (by (try simp only [List.map_toArray, List.map_cons, List.map_nil]); first | done | rfl | (simp only [List.length_drop, List.length_take]; rfl)) ?_; (with_reducible refine (impl_Combination.calls k t617 t618 _ _ t619 _ _ t623 t628 t631 _ ?side1 ?side2 ?side3 ?side4 A8.out).mono ?_); (case side1 => repeat (first | exact (Kd.S_reads' HO621.out).2.2 | (with_reducible refine Kd.C_alloc ?_ _) | (with_reducible refine Kd.C_drewN ?_ _) | (with_reducible refine Kd.C_drew ?_))); (case side2 => exact (Kd.S_reads' HO621.out).2.1); (case side3 => repeat (first | exact (Kd.R_reads' HO625.out).2.2 | (with_reducible refine Kd.C_alloc ?_ _) | (with_reducible refine Kd.C_drewN ?_ _) | (with_reducible refine Kd.C_drew ?_))); (case side4 => exact (Kd.R_reads' HO625.out).2.1); rintro e w19 ⟨v629, rfl, ho0, hb⟩; refine ⟨_, rfl, ?_⟩; have n0_ := Aside0.mk (Kd.S_elder' (by (with_reducible repeat (first | apply Kd.S_alloc | apply Kd.S_drewN | apply Kd.S_drew)); exact HO621.out) (Kd.R_base ho0) hb); have n1_ := Aside0.mk (Kd.R_elder' (by (with_reducible repeat (first | apply Kd.R_alloc | apply Kd.R_drewN | apply Kd.R_drew)); exact HO625.out) (Kd.R_base ho0) hb); have n2_ := Aside0.mk (Kd.R_lower (Kd.R_new' ho0 (Kd.R_lt (by (with_reducible repeat (first | apply Kd.R_alloc | apply Kd.R_drewN | apply Kd.R_drew)); exact HO625.out))) (below_size (by repeat (first | (with_reducible first | exact HB.out | apply below_alloc | apply pw_below_drewN | apply below_drew1 | refine below_set ?_ GE622.out) | exact HB.out)))); have n3_ := Aside0.mk (blk_below (g := gb622) (o := .cells #[.int .i64 t617, .int .i64 t618, .slice Ao13 t619.length co13] 26 (0, 0)) (by (with_reducible repeat (first | refine blk_drewN ?_ _ | refine blk_drew ?_ | refine blk_alloc ?_ _)); exact BK622.out) hb); have n4_ := Aside0.mk (below_step (by repeat (first | (with_reducible first | exact HB.out | apply below_alloc | apply pw_below_drewN | apply below_drew1 | refine below_set ?_ GE622.out) | exact HB.out)) hb); clear HO621; clear HO625; clear BK622; clear HB; have HO621 := n0_; have HO625 := n1_; have HO630 := n2_; have BK622 := n3_; have HB := n4_; clear n0_ n1_ n2_ n3_ n4_; (try clear hb); (try clear hb2); (try clear hk); (try clear hi); (try clear ho0)))
    (try simp only [Act.put, List.setIfInBounds_toArray, List.set_cons_zero, List.set_cons_succ])
    go_cut [61] (fun v61 wc => ∃ (kq : Nat) (x61_8 : Bool), v61 = .bool x61_8 ∧ Aside0 (laws_FnCombination.j0 kq (t619.length : Int) t623 t626 t628 x61_8 t617 t618 t619 = some r) ∧ Aside0 (kq ≤ k) ∧ Aside0 (Kd.R (Kd.int .i64) 2 wc w.heap.size (fun k_ => some k_ ≠ (v629 : Value).ownBlock) (.slice Ao16 t623.length co16) t623) ∧ Aside0 (Kd.R (Kd.int .i64) 2 wc w.heap.size (fun k_ => some k_ ≠ ((.slice Ao16 t623.length co16) : Value).ownBlock) v629 t628) ∧ Aside0 (Kd.S (Kd.slice 2 (Kd.int .i64)) 35 wc w.heap.size (fun k_ => some k_ ≠ ((.slice Ao16 t623.length co16) : Value).ownBlock ∧ some k_ ≠ (v629 : Value).ownBlock) (.slice Ao13 t619.length co13) t619) ∧ Aside0 (wc.heap[gb622]? = some (.cells #[.int .i64 t617, .int .i64 t618, (.slice Ao13 t619.length co13)] 26 (0, 0))) ∧ Aside0 (Below w.heap.size w wc))
    case first =>
      have H := HC9.out
      clear HC9
      by_cases c20 : t627 = 0
      · rw [if_pos c20] at H
        have c20b0 : (t627 == 0) = true := beq_iff_eq.mpr c20
        have c20b1 : (t627 != 0) = false := bne_eq_false_iff_eq.mpr c20
        clear c20
        (first | rw [c20b0] | (simp only [i64_w, i32_w]; rw [c20b0]) | skip)
        by_cases c21 : (t626 != (t631 == 0)) = true
        · rw [if_pos c21] at H
          have c21b0 : (t626 != (t631 == 0)) = true := c21
          (try (have c21b1 : decide (t626 = (t631 == 0)) = false := by simpa using c21))
          (try (have c21b2 : (t626 == (t631 == 0)) = false := by simpa using c21))
          (try (have c21b3 : ¬ (t626 = (t631 == 0)) := by simpa using c21))
          clear c21
          have H' := Aside0.mk H
          clear H
          go_wp2
          go_meet
          case rel => exact ⟨_, (true), (by first | rfl | (simp; done) | (simp [*]; done)), H', ⟨by first | omega | exact Nat.le_refl _⟩, ⟨by (with_reducible repeat (first | apply Kd.R_alloc | apply Kd.R_drewN | apply Kd.R_drew)); exact Kd.R_mono HO625.out (fun _ hk => hk.2)⟩, ⟨by (with_reducible repeat (first | apply Kd.R_alloc | apply Kd.R_drewN | apply Kd.R_drew)); exact Kd.R_mono HO630.out (fun _ hk => hk.2)⟩, ⟨by (with_reducible repeat (first | apply Kd.S_alloc | apply Kd.S_drewN | apply Kd.S_drew)); exact Kd.S_mono HO621.out (fun _ hk => ⟨hk.1.2, hk.2⟩)⟩, ⟨by (with_reducible repeat (first | refine blk_drewN ?_ _ | refine blk_drew ?_ | refine blk_alloc ?_ _)); exact BK622.out⟩, ⟨by repeat (first | (with_reducible first | exact HB.out | apply below_alloc | apply pw_below_drewN | apply below_drew1 | refine below_set ?_ GE622.out) | exact HB.out)⟩⟩
        · rw [if_neg c21] at H
          have c21b0 : (t626 != (t631 == 0)) = false := by simpa using c21
          (try (have c21b1 : decide (t626 = (t631 == 0)) = true := by simpa using c21))
          (try (have c21b2 : (t626 == (t631 == 0)) = true := by simpa using c21))
          clear c21
          by_cases c22 : t631 = 0
          · rw [if_pos c22] at H
            have c22b0 : (t631 == 0) = true := beq_iff_eq.mpr c22
            have c22b1 : (t631 != 0) = false := bne_eq_false_iff_eq.mpr c22
            clear c22
            have e26 : t626 = true := by revert c21b0; rw [c22b0]; cases t626 <;> simp
            subst e26
            have H' := Aside0.mk H
            clear H
            go_wp2
            go_meet
            case rel => exact ⟨_, (false), (by first | rfl | (simp; done) | (simp [*]; done)), H', ⟨by first | omega | exact Nat.le_refl _⟩, ⟨by (with_reducible repeat (first | apply Kd.R_alloc | apply Kd.R_drewN | apply Kd.R_drew)); exact Kd.R_mono HO625.out (fun _ hk => hk.2)⟩, ⟨by (with_reducible repeat (first | apply Kd.R_alloc | apply Kd.R_drewN | apply Kd.R_drew)); exact Kd.R_mono HO630.out (fun _ hk => hk.2)⟩, ⟨by (with_reducible repeat (first | apply Kd.S_alloc | apply Kd.S_drewN | apply Kd.S_drew)); exact Kd.S_mono HO621.out (fun _ hk => ⟨hk.1.2, hk.2⟩)⟩, ⟨by (with_reducible repeat (first | refine blk_drewN ?_ _ | refine blk_drew ?_ | refine blk_alloc ?_ _)); exact BK622.out⟩, ⟨by repeat (first | (with_reducible first | exact HB.out | apply below_alloc | apply pw_below_drewN | apply below_drew1 | refine below_set ?_ GE622.out) | exact HB.out)⟩⟩
          · rw [if_neg c22] at H
            have c22b0 : (t631 == 0) = false := beq_eq_false_iff_ne.mpr c22
            have c22b1 : (t631 != 0) = true := bne_iff_ne.mpr c22
            have e26 : t626 = false := by revert c21b0; rw [c22b0]; cases t626 <;> simp
            subst e26
            have H' := Aside0.mk H
            clear H
            go_wp2
            go_meet
            case rel => exact ⟨_, ((t631 != 6)), (by first | rfl | (simp; done) | (simp [*]; done)), H', ⟨by first | omega | exact Nat.le_refl _⟩, ⟨by (with_reducible repeat (first | apply Kd.R_alloc | apply Kd.R_drewN | apply Kd.R_drew)); exact Kd.R_mono HO625.out (fun _ hk => hk.2)⟩, ⟨by (with_reducible repeat (first | apply Kd.R_alloc | apply Kd.R_drewN | apply Kd.R_drew)); exact Kd.R_mono HO630.out (fun _ hk => hk.2)⟩, ⟨by (with_reducible repeat (first | apply Kd.S_alloc | apply Kd.S_drewN | apply Kd.S_drew)); exact Kd.S_mono HO621.out (fun _ hk => ⟨hk.1.2, hk.2⟩)⟩, ⟨by (with_reducible repeat (first | refine blk_drewN ?_ _ | refine blk_drew ?_ | refine blk_alloc ?_ _)); exact BK622.out⟩, ⟨by repeat (first | (with_reducible first | exact HB.out | apply below_alloc | apply pw_below_drewN | apply below_drew1 | refine below_set ?_ GE622.out) | exact HB.out)⟩⟩
      · rw [if_neg c20] at H
        have c20b0 : (t627 == 0) = false := beq_eq_false_iff_ne.mpr c20
        have c20b1 : (t627 != 0) = true := bne_iff_ne.mpr c20
        (first | rw [c20b0] | (simp only [i64_w, i32_w]; rw [c20b0]) | skip)
        have H' := Aside0.mk H
        clear H
        go_wp2
        go_meet
        case rel => exact ⟨_, (true), (by first | rfl | (simp; done) | (simp [*]; done)), H', ⟨by first | omega | exact Nat.le_refl _⟩, ⟨by (with_reducible repeat (first | apply Kd.R_alloc | apply Kd.R_drewN | apply Kd.R_drew)); exact Kd.R_mono HO625.out (fun _ hk => hk.2)⟩, ⟨by (with_reducible repeat (first | apply Kd.R_alloc | apply Kd.R_drewN | apply Kd.R_drew)); exact Kd.R_mono HO630.out (fun _ hk => hk.2)⟩, ⟨by (with_reducible repeat (first | apply Kd.S_alloc | apply Kd.S_drewN | apply Kd.S_drew)); exact Kd.S_mono HO621.out (fun _ hk => ⟨hk.1.2, hk.2⟩)⟩, ⟨by (with_reducible repeat (first | refine blk_drewN ?_ _ | refine blk_drew ?_ | refine blk_alloc ?_ _)); exact BK622.out⟩, ⟨by repeat (first | (with_reducible first | exact HB.out | apply below_alloc | apply pw_below_drewN | apply below_drew1 | refine below_set ?_ GE622.out) | exact HB.out)⟩⟩
    case rest =>
      clear HC9
      try clear c1
      try clear c2
      try clear p2
      try clear c3
      try clear c4
      try clear c10
      try clear c20
      try clear c20b0
      try clear c20b1
      try clear c21
      try clear c21b0
      try clear c21b1
      try clear c21b2
      try clear c22
      try clear c22b0
      try clear c22b1
      try clear hcz12_0
      try clear hcz12_1
      try clear hcz12_2
      try clear hcz15_0
      try clear hcz15_1
      try clear hcz15_2
      try clear hcz18_0
      try clear hcz18_1
      try clear hcz18_2
      try clear hfz12_0
      try clear hfz12_1
      try clear hfz12_2
      try clear hfz15_0
      try clear hfz15_1
      try clear hfz15_2
      try clear hfz18_0
      try clear hfz18_1
      try clear hfz18_2
      obtain ⟨kq, x61_8, rfl, HA, HJ8, HO_7, HO_10, HO_623002, BK622, HB⟩ := hcut
      cases kq with
      | zero => exact absurd HA.out (by simp [laws_FnCombination.j0])
      | succ kj8 =>
        have H := HA.out
        clear HA
        simp only [laws_FnCombination.j0] at H
        by_cases c23 : x61_8 = true
        · subst c23
          have H1 : (some false) = some r := by rw [if_pos rfl] at H; exact H
          clear H
          have H := H1
          clear H1
          obtain rfl := Option.some.inj H
          go_wp2
          go_ret
          exact ⟨by first | rfl | (simp [errW_none, errW_some] <;> rfl) | (simp [*, errW_none, errW_some] <;> rfl), by repeat (first | (with_reducible first | exact HB.out | apply below_alloc | apply pw_below_drewN | apply below_drew1 | refine below_set ?_ GE622.out) | exact HB.out)⟩
        · replace c23 := Bool.eq_false_iff.mpr c23
          subst c23
          have H1 : (if t626 = true then (if (t628.length : Int) = (t619.length : Int) then (laws_FnCombination.l0 kj8 (t619.length : Int) t623 t628 0 t617 t618 t619) else (some false)) else (laws_FnCombination.j3 kj8 (t619.length : Int) t623 t617 t618 t619)) = some r := by rw [if_neg (show ¬ (false = true) by decide)] at H; exact H
          clear H
          have H := H1
          clear H1
          have HC24 := Aside0.mk H
          clear H
          go_upto_if 62 with (fail)
          go_cut [] (fun wc => ∃ (kq : Nat), Aside0 (laws_FnCombination.j3 kq (t619.length : Int) t623 t617 t618 t619 = some r) ∧ Aside0 (kq ≤ kj8) ∧ Aside0 (Kd.R (Kd.int .i64) 2 wc w.heap.size (fun _ => True) (.slice Ao16 t623.length co16) t623) ∧ Aside0 (Kd.S (Kd.slice 2 (Kd.int .i64)) 35 wc w.heap.size (fun k_ => some k_ ≠ ((.slice Ao16 t623.length co16) : Value).ownBlock) (.slice Ao13 t619.length co13) t619) ∧ Aside0 (wc.heap[gb622]? = some (.cells #[.int .i64 t617, .int .i64 t618, (.slice Ao13 t619.length co13)] 26 (0, 0))) ∧ Aside0 (Below w.heap.size w wc))
          case first =>
            have H := HC24.out
            clear HC24
            by_cases c25 : t626 = true
            · subst c25
              have H1 : (if (t628.length : Int) = (t619.length : Int) then (laws_FnCombination.l0 kj8 (t619.length : Int) t623 t628 0 t617 t618 t619) else (some false)) = some r := by rw [if_pos rfl] at H; exact H
              clear H
              have H := H1
              clear H1
              by_cases c26 : (t628.length : Int) = (t619.length : Int)
              · rw [if_pos c26] at H
                have c26b0 : ((t628.length : Int) == (t619.length : Int)) = true := beq_iff_eq.mpr c26
                have c26b1 : ((t628.length : Int) != (t619.length : Int)) = false := bne_eq_false_iff_eq.mpr c26
                have c26b2 : (t628.length == t619.length) = true := by first | simpa using c26 | (simp at c26 ⊢; omega)
                clear c26
                (first | rw [c26b0] | (simp only [i64_w, i32_w]; rw [c26b0]) | skip)
                have H' := Aside0.mk H
                clear H
                obtain ⟨Ao27, co27, eo27⟩ := Kd.R_slice HO_10.out
                subst eo27
                go_wp2
                go_loopg [12] kj8 (fun kq v12 w' => ∃ (x12_2 : Int), v12 = .int .i64 x12_2 ∧ Aside0 (laws_FnCombination.l0 kq (t619.length : Int) t623 t628 x12_2 t617 t618 t619 = some r) ∧ Aside0 (kq ≤ kj8) ∧ Aside0 (Kd.R (Kd.int .i64) 2 w' w.heap.size (fun k_ => some k_ ≠ ((.slice Ao27 t628.length co27) : Value).ownBlock) (.slice Ao16 t623.length co16) t623) ∧ Aside0 (Kd.R (Kd.int .i64) 2 w' w.heap.size (fun k_ => some k_ ≠ ((.slice Ao16 t623.length co16) : Value).ownBlock) (.slice Ao27 t628.length co27) t628) ∧ Aside0 (Kd.S (Kd.slice 2 (Kd.int .i64)) 35 w' w.heap.size (fun k_ => some k_ ≠ ((.slice Ao16 t623.length co16) : Value).ownBlock ∧ some k_ ≠ ((.slice Ao27 t628.length co27) : Value).ownBlock) (.slice Ao13 t619.length co13) t619) ∧ Aside0 (w'.heap[gb622]? = some (.cells #[.int .i64 t617, .int .i64 t618, (.slice Ao13 t619.length co13)] 26 (0, 0))) ∧ Aside0 (Below w.heap.size w w'))
                case atStart => exact ⟨(0), (by first | rfl | (simp; done) | (simp [*]; done)), H', ⟨Nat.le_refl _⟩, ⟨by (with_reducible repeat (first | apply Kd.R_alloc | apply Kd.R_drewN | apply Kd.R_drew)); exact HO_7.out⟩, ⟨by (with_reducible repeat (first | apply Kd.R_alloc | apply Kd.R_drewN | apply Kd.R_drew)); exact HO_10.out⟩, ⟨by (with_reducible repeat (first | apply Kd.S_alloc | apply Kd.S_drewN | apply Kd.S_drew)); exact HO_623002.out⟩, ⟨by (with_reducible repeat (first | refine blk_drewN ?_ _ | refine blk_drew ?_ | refine blk_alloc ?_ _)); exact BK622.out⟩, ⟨by repeat (first | (with_reducible first | exact HB.out | apply below_alloc | apply pw_below_drewN | apply below_drew1 | refine below_set ?_ GE622.out) | exact HB.out)⟩⟩
                case round =>
                  clear H'
                  try clear c1
                  try clear c2
                  try clear p2
                  try clear c3
                  try clear c4
                  try clear c10
                  try clear c20
                  try clear c20b0
                  try clear c20b1
                  try clear c21
                  try clear c21b0
                  try clear c21b1
                  try clear c21b2
                  try clear c22
                  try clear c22b0
                  try clear c22b1
                  try clear c23
                  try clear c25
                  try clear c26
                  try clear c26b0
                  try clear c26b1
                  try clear c26b2
                  try clear c27
                  try clear hcz12_0
                  try clear hcz12_1
                  try clear hcz12_2
                  try clear hcz15_0
                  try clear hcz15_1
                  try clear hcz15_2
                  try clear hcz18_0
                  try clear hcz18_1
                  try clear hcz18_2
                  try clear hfz12_0
                  try clear hfz12_1
                  try clear hfz12_2
                  try clear hfz15_0
                  try clear hfz15_1
                  try clear hfz15_2
                  try clear hfz18_0
                  try clear hfz18_1
                  try clear hfz18_2
                  try clear p2
                  obtain ⟨x12_2, rfl, HA, HK2, HO_7, HO_10, HO_623002, BK622, HB⟩ := hrel
                  cases gk with
                  | zero => exact absurd HA.out (by simp [laws_FnCombination.l0])
                  | succ k2 =>
                    have H := HA.out
                    clear HA
                    simp only [laws_FnCombination.l0] at H
                    by_cases c28 : x12_2 < t618
                    · rw [if_pos c28] at H
                      have c28b0 : decide (x12_2 < t618) = true := decide_eq_true c28
                      clear c28
                      have H' := Aside0.mk H
                      clear H
                      have hcz29_0 : wr.cell? ⟨gb622, 0, none⟩ = some (.int .i64 t617) := (blk_cell BK622.out 0).trans rfl
                      have hcz29_1 : wr.cell? ⟨gb622, 1, none⟩ = some (.int .i64 t618) := (blk_cell BK622.out 1).trans rfl
                      have hcz29_2 : wr.cell? ⟨gb622, 2, none⟩ = some (.slice Ao13 t619.length co13) := (blk_cell BK622.out 2).trans rfl
                      have hfz29_0 := blk_frozen BK622.out 0
                      have hfz29_1 := blk_frozen BK622.out 1
                      have hfz29_2 := blk_frozen BK622.out 2
                      go_wp2
                      go_loopg [13, 14] k2 (fun kq v13 v14 w' => ∃ (x13_3 : Int) (x14_3 : Int), v13 = .int .i64 x13_3 ∧ v14 = .int .i64 x14_3 ∧ Aside0 (laws_FnCombination.l1 kq (t619.length : Int) t623 t628 x12_2 x13_3 x14_3 t617 t618 t619 = some r) ∧ Aside0 (kq ≤ k2) ∧ Aside0 (Kd.R (Kd.int .i64) 2 w' w.heap.size (fun k_ => some k_ ≠ ((.slice Ao27 t628.length co27) : Value).ownBlock) (.slice Ao16 t623.length co16) t623) ∧ Aside0 (Kd.R (Kd.int .i64) 2 w' w.heap.size (fun k_ => some k_ ≠ ((.slice Ao16 t623.length co16) : Value).ownBlock) (.slice Ao27 t628.length co27) t628) ∧ Aside0 (Kd.S (Kd.slice 2 (Kd.int .i64)) 35 w' w.heap.size (fun k_ => some k_ ≠ ((.slice Ao16 t623.length co16) : Value).ownBlock ∧ some k_ ≠ ((.slice Ao27 t628.length co27) : Value).ownBlock) (.slice Ao13 t619.length co13) t619) ∧ Aside0 (w'.heap[gb622]? = some (.cells #[.int .i64 t617, .int .i64 t618, (.slice Ao13 t619.length co13)] 26 (0, 0))) ∧ Aside0 (Below w.heap.size w w'))
                      case atStart => exact ⟨(0), (0), (by first | rfl | (simp; done) | (simp [*]; done)), (by first | rfl | (simp; done) | (simp [*]; done)), H', ⟨Nat.le_refl _⟩, ⟨by (with_reducible repeat (first | apply Kd.R_alloc | apply Kd.R_drewN | apply Kd.R_drew)); exact HO_7.out⟩, ⟨by (with_reducible repeat (first | apply Kd.R_alloc | apply Kd.R_drewN | apply Kd.R_drew)); exact HO_10.out⟩, ⟨by (with_reducible repeat (first | apply Kd.S_alloc | apply Kd.S_drewN | apply Kd.S_drew)); exact HO_623002.out⟩, ⟨by (with_reducible repeat (first | refine blk_drewN ?_ _ | refine blk_drew ?_ | refine blk_alloc ?_ _)); exact BK622.out⟩, ⟨by repeat (first | (with_reducible first | exact HB.out | apply below_alloc | apply pw_below_drewN | apply below_drew1 | refine below_set ?_ GE622.out) | exact HB.out)⟩⟩
                      case round =>
                        clear H'
                        try clear c1
                        try clear c2
                        try clear p2
                        try clear c3
                        try clear c4
                        try clear c10
                        try clear c20
                        try clear c20b0
                        try clear c20b1
                        try clear c21
                        try clear c21b0
                        try clear c21b1
                        try clear c21b2
                        try clear c22
                        try clear c22b0
                        try clear c22b1
                        try clear c23
                        try clear c25
                        try clear c26
                        try clear c26b0
                        try clear c26b1
                        try clear c26b2
                        try clear c27
                        try clear c28
                        try clear c28b0
                        try clear hcz12_0
                        try clear hcz12_1
                        try clear hcz12_2
                        try clear hcz15_0
                        try clear hcz15_1
                        try clear hcz15_2
                        try clear hcz18_0
                        try clear hcz18_1
                        try clear hcz18_2
                        try clear hcz29_0
                        try clear hcz29_1
                        try clear hcz29_2
                        try clear hfz12_0
                        try clear hfz12_1
                        try clear hfz12_2
                        try clear hfz15_0
                        try clear hfz15_1
                        try clear hfz15_2
                        try clear hfz18_0
                        try clear hfz18_1
                        try clear hfz18_2
                        try clear hfz29_0
                        try clear hfz29_1
                        try clear hfz29_2
                        try clear p2
                        obtain ⟨x13_3, x14_3, rfl, rfl, HA, HK3, HO_7, HO_10, HO_623002, BK622, HB⟩ := hrel
                        cases gk with
                        | zero => exact absurd HA.out (by simp [laws_FnCombination.l1])
                        | succ k3 =>
                          have H := HA.out
                          clear HA
                          simp only [laws_FnCombination.l1] at H
                          by_cases c30 : x14_3 < (t619.length : Int)
                          · rw [if_pos c30] at H
                            have c30b0 : decide (x14_3 < (t619.length : Int)) = true := decide_eq_true c30
                            clear c30
                            by_cases c31 : 0 ≤ x14_3
                            · rw [if_pos c31] at H
                              have c31b0 : decide (0 ≤ x14_3) = true := decide_eq_true c31
                              clear c31
                              by_cases c32 : x14_3 < (t628.length : Int)
                              · rw [if_pos c32] at H
                                have c32b0 : decide (x14_3 < (t628.length : Int)) = true := decide_eq_true c32
                                clear c32
                                by_cases c33 : x14_3 < (t619.length : Int)
                                · rw [if_pos c33] at H
                                  have c33b0 : decide (x14_3 < (t619.length : Int)) = true := decide_eq_true c33
                                  clear c33
                                  by_cases c34 : 0 ≤ x12_2
                                  · rw [if_pos c34] at H
                                    have c34b0 : decide (0 ≤ x12_2) = true := decide_eq_true c34
                                    clear c34
                                    by_cases c35 : x12_2 < ((rd_L1 t619 x14_3).length : Int)
                                    · rw [if_pos c35] at H
                                      have c35b0 : decide (x12_2 < ((rd_L1 t619 x14_3).length : Int)) = true := decide_eq_true c35
                                      clear c35
                                      by_cases c36 : t617 = 0
                                      · rw [if_pos c36] at H
                                        exact absurd H (by simp)
                                      · rw [if_neg c36] at H
                                        have c36b0 : (t617 == 0) = false := beq_eq_false_iff_ne.mpr c36
                                        have c36b1 : (t617 != 0) = true := bne_iff_ne.mpr c36
                                        have H' := Aside0.mk H
                                        clear H
                                        try go_wp2
                                        have n0_ := Aside0.mk (Kd.R_drew HO_7.out)
                                        have n1_ := Aside0.mk (Kd.R_drew HO_10.out)
                                        have n2_ := Aside0.mk (Kd.S_drew HO_623002.out)
                                        have n3_ := Aside0.mk (blk_drew BK622.out)
                                        have n4_ := Aside0.mk (below_drew1 HB.out)
                                        clear HO_7
                                        clear HO_10
                                        clear HO_623002
                                        clear BK622
                                        clear HB
                                        have HO_7 := n0_
                                        have HO_10 := n1_
                                        have HO_623002 := n2_
                                        have BK622 := n3_
                                        have HB := n4_
                                        clear n0_ n1_ n2_ n3_ n4_
                                        have p632 : 0 ≤ (x14_3 : Int) := of_decide_eq_true (by first | (with_reducible assumption) | assumption)
                                        have q632 : x14_3 < (t628.length : Int) := of_decide_eq_true (by first | (with_reducible assumption) | assumption)
                                        obtain ⟨ad632, e632, hx632_0⟩ := Kd.at_int (Kd.R_reads' HO_10.out).2.2 x14_3 p632 q632
                                        cases e632
                                        replace p632 := eq_true p632
                                        replace q632 := eq_true q632
                                        have p633 : 0 ≤ (x14_3 : Int) := of_decide_eq_true (by first | (with_reducible assumption) | assumption)
                                        have q633 : x14_3 < (t619.length : Int) := of_decide_eq_true (by first | (with_reducible assumption) | assumption)
                                        obtain ⟨ad633, A633_0, c633_0, e633, hx633_0, hl633_0, hi633_0⟩ := at_L1 (Kd.S_reads' HO_623002.out).2.2 x14_3 p633 q633
                                        cases e633
                                        obtain ⟨ce633, hce633, hMe633, hcc633⟩ := Kd.S_get HO_623002.out [] x14_3 p633 (by first | exact q633 | exact of_decide_eq_true (by first | (with_reducible assumption) | assumption) | (have e_ := (Kd.S_reads' HO_623002.out).1; omega))
                                        obtain ⟨ve633_0, rfl, ge633_0⟩ := hMe633
                                        have hv633_0 := hcc633 0 _ rfl
                                        rw [Nat.add_zero, show ((Kd.slice 2 (Kd.int .i64))).sz = 1 from rfl, Nat.mul_one] at hv633_0
                                        replace hv633_0 := Option.some.inj (hv633_0.symm.trans hx633_0)
                                        rw [hv633_0] at ge633_0
                                        have HL633_0 := Aside0.mk (show Kd.R (Kd.int .i64) 2 _ _ _ _ (rd_L1 t619 x14_3) from ge633_0)
                                        clear hv633_0 ge633_0
                                        clear hcc633 hce633
                                        have HR633_0 := Aside0.mk hi633_0
                                        have HC633_0 := Aside0.mk hl633_0
                                        clear hi633_0 hl633_0
                                        replace p633 := eq_true p633
                                        replace q633 := eq_true q633
                                        have p634 : 0 ≤ (x12_2 : Int) := of_decide_eq_true (by first | (with_reducible assumption) | assumption)
                                        have q634 : x12_2 < ((rd_L1 t619 x14_3).length : Int) := of_decide_eq_true (by first | (with_reducible assumption) | assumption)
                                        obtain ⟨ad634, e634, hx634_0⟩ := Kd.at_int (by repeat (first | (with_reducible exact HR633_0.out) | (with_reducible refine Kd.C_alloc ?_ _) | (with_reducible refine Kd.C_drewN ?_ _) | (with_reducible refine Kd.C_drew ?_) | exact HR633_0.out)) x12_2 p634 q634
                                        cases e634
                                        replace p634 := eq_true p634
                                        replace q634 := eq_true q634
                                        refine start_ (n := 19) (S := fun w' => w'.cell? ⟨gb622, 0, none⟩ = some (.int .i64 t617) ∧ w'.cell? ⟨gb622, 1, none⟩ = some (.int .i64 t618) ∧ w'.cell? ⟨gb622, 2, none⟩ = some (.slice (some ad633) t619.length co13) ∧ w'.cell? (ad632.add (x14_3).toNat) = some (.int .i64 (rd t628 x14_3)) ∧ w'.cell? (ad633.add (x14_3).toNat) = some (.slice (some ad634) (rd_L1 t619 x14_3).length c633_0) ∧ w'.cell? (ad634.add (x12_2).toNat) = some (.int .i64 (rd (rd_L1 t619 x14_3) x12_2))) (ds := []) #[false, false, false, false, false, false, false, false, false, false, false, false, false, false, false, false, false, false, false] (by kernel_rfl) rfl rfl ⟨(blk_cell BK622.out 0).trans rfl, (blk_cell BK622.out 1).trans rfl, (blk_cell BK622.out 2).trans rfl, hx632_0, hx633_0, hx634_0⟩ (fun hHeld => ?_); refine with_tabW laws_FnCombination.tab20 laws_FnCombination.bits20 (fun HT_ HW_ => ?_)
                                        generalize wr.drew = w37 at HO_7 HO_10 HO_623002 BK622 HB HL633_0 HR633_0 hx632_0 hx633_0 hx634_0 hHeld ⊢
                                        refine pure_ (i := 0) (N := some 78) (v := ?_) (a' := ?_) #[true, false, false, false, false, false, false, false, false, false, false, false, false, false, false, false, false, false, false] rfl rfl (any_of HT_.out (by kernel_rfl)) (fun _ _ _ h => h) (Or.inl ⟨by rfl, ?_⟩) ?_ ?_
                                        rotate_left
                                        · intro w'
                                          first | (go_simp; with_reducible rfl) | (simp [go_sem, Instr.field, asAgg] <;> with_reducible rfl)
                                        rotate_left
                                        · simp only [Act.put, List.setIfInBounds_toArray, List.set_cons_zero, List.set_cons_succ, i64_w, i32_w]
                                          rfl
                                        refine pure_ (i := 1) (N := some 79) (v := ?_) (a' := ?_) #[true, true, false, false, false, false, false, false, false, false, false, false, false, false, false, false, false, false, false] rfl rfl (any_of HT_.out (by kernel_rfl)) (fun _ _ _ h => h) (Or.inl ⟨by rfl, ?_⟩) ?_ ?_
                                        rotate_left
                                        · intro w'
                                          first | (go_simp; with_reducible rfl) | (simp [go_sem, Instr.field, asAgg] <;> with_reducible rfl)
                                        rotate_left
                                        · simp only [Act.put, List.setIfInBounds_toArray, List.set_cons_zero, List.set_cons_succ, i64_w, i32_w]
                                          rfl
                                        refine pure_ (i := 2) (N := some 80) (v := ?_) (a' := ?_) #[true, true, true, false, false, false, false, false, false, false, false, false, false, false, false, false, false, false, false] rfl rfl (any_of HT_.out (by kernel_rfl)) (fun _ _ _ h => h) (Or.inl ⟨by rfl, ?_⟩) ?_ ?_
                                        rotate_left
                                        · intro w'
                                          first | (go_simp; with_reducible rfl) | (simp [go_sem, Instr.field, asAgg] <;> with_reducible rfl)
                                        rotate_left
                                        · simp only [Act.put, List.setIfInBounds_toArray, List.set_cons_zero, List.set_cons_succ, i64_w, i32_w]
                                          rfl
                                        refine pure_ (i := 3) (N := some 81) (v := ?_) (a' := ?_) #[true, true, true, true, false, false, false, false, false, false, false, false, false, false, false, false, false, false, false] rfl rfl (any_of HT_.out (by kernel_rfl)) (fun _ _ _ h => h) (Or.inl ⟨by rfl, ?_⟩) ?_ ?_
                                        rotate_left
                                        · intro w'
                                          first | (go_simp; with_reducible rfl) | (simp [go_sem, Instr.field, asAgg] <;> with_reducible rfl)
                                        rotate_left
                                        · simp only [Act.put, List.setIfInBounds_toArray, List.set_cons_zero, List.set_cons_succ, i64_w, i32_w]
                                          rfl
                                        refine pure_ (i := 5) (N := some 83) (v := ?_) (a' := ?_) #[true, true, true, true, false, true, false, false, false, false, false, false, false, false, false, false, false, false, false] rfl rfl (any_of HT_.out (by kernel_rfl)) (fun _ _ _ h => h) (Or.inl ⟨by rfl, ?_⟩) ?_ ?_
                                        rotate_left
                                        · intro w'
                                          first | (go_simp; with_reducible rfl) | (simp [go_sem, Instr.field, asAgg] <;> with_reducible rfl)
                                        rotate_left
                                        · simp only [Act.put, List.setIfInBounds_toArray, List.set_cons_zero, List.set_cons_succ, i64_w, i32_w]
                                          rfl
                                        refine pure_ (i := 7) (N := some 85) (v := ?_) (a' := ?_) #[true, true, true, true, false, true, false, true, false, false, false, false, false, false, false, false, false, false, false] rfl rfl (any_of HT_.out (by kernel_rfl)) (fun _ _ _ h => h) (Or.inl ⟨by rfl, ?_⟩) ?_ ?_
                                        rotate_left
                                        · intro w'
                                          first | (go_simp; with_reducible rfl) | (simp [go_sem, Instr.field, asAgg] <;> with_reducible rfl)
                                        rotate_left
                                        · simp only [Act.put, List.setIfInBounds_toArray, List.set_cons_zero, List.set_cons_succ, i64_w, i32_w]
                                          rfl
                                        refine pure_ (i := 10) (N := some 88) (v := ?_) (a' := ?_) #[true, true, true, true, false, true, false, true, false, false, true, false, false, false, false, false, false, false, false] rfl rfl (any_of HT_.out (by kernel_rfl)) (fun _ _ _ h => h) (Or.inl ⟨by rfl, ?_⟩) ?_ ?_
                                        rotate_left
                                        · intro w'
                                          first | (go_simp; with_reducible rfl) | (simp [go_sem, Instr.field, asAgg] <;> with_reducible rfl)
                                        rotate_left
                                        · simp only [Act.put, List.setIfInBounds_toArray, List.set_cons_zero, List.set_cons_succ, i64_w, i32_w]
                                          rfl
                                        refine pure_ (i := 15) (N := some 93) (v := ?_) (a' := ?_) #[true, true, true, true, false, true, false, true, false, false, true, false, false, false, false, true, false, false, false] rfl rfl (any_of HT_.out (by kernel_rfl)) (fun _ _ _ h => h) (Or.inl ⟨by rfl, ?_⟩) ?_ ?_
                                        rotate_left
                                        · intro w'
                                          first | (go_simp; with_reducible rfl) | (simp [go_sem, Instr.field, asAgg] <;> with_reducible rfl)
                                        rotate_left
                                        · simp only [Act.put, List.setIfInBounds_toArray, List.set_cons_zero, List.set_cons_succ, i64_w, i32_w]
                                          rfl
                                        refine take_ (i := 4) (N := some 82) (v := ?_) (a' := ?_) #[true, true, true, true, true, true, false, true, false, false, true, false, false, false, false, true, false, false, false] rfl rfl (take_ofW HT_.out HW_.out (by kernel_rfl)) (fun _ _ _ h => h) (Or.inl ⟨by rfl, ?_⟩) hHeld ?_ ?_
                                        rotate_left
                                        · rintro w' ⟨s0, s1, s2, s3, s4, s5⟩
                                          go_simp
                                          with_reducible rfl
                                        rotate_left
                                        · simp only [Act.put, List.setIfInBounds_toArray, List.set_cons_zero, List.set_cons_succ, i64_w, i32_w]
                                          rfl
                                        refine take_ (i := 6) (N := some 84) (v := ?_) (a' := ?_) #[true, true, true, true, true, true, true, true, false, false, true, false, false, false, false, true, false, false, false] rfl rfl (take_ofW HT_.out HW_.out (by kernel_rfl)) (fun _ _ _ h => h) (Or.inl ⟨by rfl, ?_⟩) hHeld ?_ ?_
                                        rotate_left
                                        · rintro w' ⟨s0, s1, s2, s3, s4, s5⟩
                                          go_simp
                                          with_reducible rfl
                                        rotate_left
                                        · simp only [Act.put, List.setIfInBounds_toArray, List.set_cons_zero, List.set_cons_succ, i64_w, i32_w]
                                          rfl
                                        refine pure_ (i := 8) (N := some 86) (v := ?_) (a' := ?_) #[true, true, true, true, true, true, true, true, true, false, true, false, false, false, false, true, false, false, false] rfl rfl (any_of HT_.out (by kernel_rfl)) (fun _ _ _ h => h) (Or.inl ⟨by rfl, ?_⟩) ?_ ?_
                                        rotate_left
                                        · intro w'
                                          first | (go_simp; with_reducible rfl) | (simp [go_sem, Instr.field, asAgg] <;> with_reducible rfl)
                                        rotate_left
                                        · simp only [Act.put, List.setIfInBounds_toArray, List.set_cons_zero, List.set_cons_succ, i64_w, i32_w]
                                          rfl
                                        refine take_ (i := 9) (N := some 87) (v := ?_) (a' := ?_) #[true, true, true, true, true, true, true, true, true, true, true, false, false, false, false, true, false, false, false] rfl rfl (take_ofW HT_.out HW_.out (by kernel_rfl)) (fun _ _ _ h => h) (Or.inl ⟨by rfl, ?_⟩) hHeld ?_ ?_
                                        rotate_left
                                        · rintro w' ⟨s0, s1, s2, s3, s4, s5⟩
                                          go_simp
                                          with_reducible rfl
                                        rotate_left
                                        · simp only [Act.put, List.setIfInBounds_toArray, List.set_cons_zero, List.set_cons_succ, i64_w, i32_w]
                                          rfl
                                        refine pure_ (i := 11) (N := some 89) (v := ?_) (a' := ?_) #[true, true, true, true, true, true, true, true, true, true, true, true, false, false, false, true, false, false, false] rfl rfl (any_of HT_.out (by kernel_rfl)) (fun _ _ _ h => h) (Or.inl ⟨by rfl, ?_⟩) ?_ ?_
                                        rotate_left
                                        · intro w'
                                          first | (go_simp; with_reducible rfl) | (simp [go_sem, Instr.field, asAgg] <;> with_reducible rfl)
                                        rotate_left
                                        · simp only [Act.put, List.setIfInBounds_toArray, List.set_cons_zero, List.set_cons_succ, i64_w, i32_w]
                                          rfl
                                        refine take_ (i := 12) (N := some 90) (v := ?_) (a' := ?_) #[true, true, true, true, true, true, true, true, true, true, true, true, true, false, false, true, false, false, false] rfl rfl (take_ofW HT_.out HW_.out (by kernel_rfl)) (fun _ _ _ h => h) (Or.inl ⟨by rfl, ?_⟩) hHeld ?_ ?_
                                        rotate_left
                                        · rintro w' ⟨s0, s1, s2, s3, s4, s5⟩
                                          go_simp
                                          with_reducible rfl
                                        rotate_left
                                        · simp only [Act.put, List.setIfInBounds_toArray, List.set_cons_zero, List.set_cons_succ, i64_w, i32_w]
                                          rfl
                                        refine pure_ (i := 13) (N := some 91) (v := ?_) (a' := ?_) #[true, true, true, true, true, true, true, true, true, true, true, true, true, true, false, true, false, false, false] rfl rfl (any_of HT_.out (by kernel_rfl)) (fun _ _ _ h => h) (Or.inl ⟨by rfl, ?_⟩) ?_ ?_
                                        rotate_left
                                        · intro w'
                                          first | (go_simp; with_reducible rfl) | (simp [go_sem, Instr.field, asAgg] <;> with_reducible rfl)
                                        rotate_left
                                        · simp only [Act.put, List.setIfInBounds_toArray, List.set_cons_zero, List.set_cons_succ, i64_w, i32_w]
                                          rfl
                                        refine pure_ (i := 14) (N := some 92) (v := ?_) (a' := ?_) #[true, true, true, true, true, true, true, true, true, true, true, true, true, true, true, true, false, false, false] rfl rfl (any_of HT_.out (by kernel_rfl)) (fun _ _ _ h => h) (Or.inl ⟨by rfl, ?_⟩) ?_ ?_
                                        rotate_left
                                        · intro w'
                                          first | (go_simp; with_reducible rfl) | (simp [go_sem, Instr.field, asAgg] <;> with_reducible rfl)
                                        rotate_left
                                        · simp only [Act.put, List.setIfInBounds_toArray, List.set_cons_zero, List.set_cons_succ, i64_w, i32_w]
                                          rfl
                                        refine take_ (i := 16) (N := some 94) (v := ?_) (a' := ?_) #[true, true, true, true, true, true, true, true, true, true, true, true, true, true, true, true, true, false, false] rfl rfl (take_ofW HT_.out HW_.out (by kernel_rfl)) (fun _ _ _ h => h) (Or.inl ⟨by rfl, ?_⟩) hHeld ?_ ?_
                                        rotate_left
                                        · rintro w' ⟨s0, s1, s2, s3, s4, s5⟩
                                          go_simp
                                          with_reducible rfl
                                        rotate_left
                                        · simp only [Act.put, List.setIfInBounds_toArray, List.set_cons_zero, List.set_cons_succ, i64_w, i32_w]
                                          rfl
                                        refine pure_ (i := 17) (N := some 95) (v := ?_) (a' := ?_) #[true, true, true, true, true, true, true, true, true, true, true, true, true, true, true, true, true, true, false] rfl rfl (any_of HT_.out (by kernel_rfl)) (fun _ _ _ h => h) (Or.inl ⟨by rfl, ?_⟩) ?_ ?_
                                        rotate_left
                                        · intro w'
                                          first | (go_simp; with_reducible rfl) | (simp [go_sem, Instr.field, asAgg] <;> with_reducible rfl)
                                        rotate_left
                                        · simp only [Act.put, List.setIfInBounds_toArray, List.set_cons_zero, List.set_cons_succ, i64_w, i32_w]
                                          rfl
                                        refine pure_ (i := 18) (N := some 13) (v := ?_) (a' := ?_) #[true, true, true, true, true, true, true, true, true, true, true, true, true, true, true, true, true, true, true] rfl rfl (any_of HT_.out (by kernel_rfl)) (fun _ _ _ h => h) (Or.inl ⟨by rfl, ?_⟩) ?_ ?_
                                        rotate_left
                                        · intro w'
                                          first | (go_simp; with_reducible rfl) | (simp [go_sem, Instr.field, asAgg] <;> with_reducible rfl)
                                        rotate_left
                                        · simp only [Act.put, List.setIfInBounds_toArray, List.set_cons_zero, List.set_cons_succ, i64_w, i32_w]
                                          rfl
                                        refine done_ (done_of HT_.out (by kernel_rfl)) ?_
                                        try go_wp2
                                        go_roundg k3
                                        case measure => have := HJ8.out; have := HK2.out; have := HK3.out; omega
                                        case rel => exact ⟨(Int.tmod (wrap64 (x13_3 + (wrap64 ((rd t628 x14_3) * (rd (rd_L1 t619 x14_3) x12_2))))) t617), (wrap64 (x14_3 + 1)), (by first | rfl | (simp; done) | (simp [*]; done)), (by first | rfl | (simp; done) | (simp [*]; done)), H', ⟨by have := HJ8.out; have := HK2.out; have := HK3.out; omega⟩, ⟨by (with_reducible repeat (first | apply Kd.R_alloc | apply Kd.R_drewN | apply Kd.R_drew)); exact HO_7.out⟩, ⟨by (with_reducible repeat (first | apply Kd.R_alloc | apply Kd.R_drewN | apply Kd.R_drew)); exact HO_10.out⟩, ⟨by (with_reducible repeat (first | apply Kd.S_alloc | apply Kd.S_drewN | apply Kd.S_drew)); exact HO_623002.out⟩, ⟨by (with_reducible repeat (first | refine blk_drewN ?_ _ | refine blk_drew ?_ | refine blk_alloc ?_ _)); exact BK622.out⟩, ⟨by repeat (first | (with_reducible first | exact HB.out | apply below_alloc | apply pw_below_drewN | apply below_drew1 | refine below_set ?_ GE622.out) | exact HB.out)⟩⟩
                                    · rw [if_neg c35] at H
                                      exact absurd H (by simp)
                                  · rw [if_neg c34] at H
                                    exact absurd H (by simp)
                                · rw [if_neg c33] at H
                                  exact absurd H (by simp)
                              · rw [if_neg c32] at H
                                exact absurd H (by simp)
                            · rw [if_neg c31] at H
                              exact absurd H (by simp)
                          · rw [if_neg c30] at H
                            have c30b0 : decide (x14_3 < (t619.length : Int)) = false := decide_eq_false c30
                            clear c30
                            by_cases c38 : 0 ≤ x12_2
                            · rw [if_pos c38] at H
                              have c38b0 : decide (0 ≤ x12_2) = true := decide_eq_true c38
                              clear c38
                              by_cases c39 : x12_2 < (t623.length : Int)
                              · rw [if_pos c39] at H
                                have c39b0 : decide (x12_2 < (t623.length : Int)) = true := decide_eq_true c39
                                clear c39
                                by_cases c40 : x13_3 = (rd t623 x12_2)
                                · rw [if_pos c40] at H
                                  have c40b0 : (x13_3 == (rd t623 x12_2)) = true := beq_iff_eq.mpr c40
                                  have c40b1 : (x13_3 != (rd t623 x12_2)) = false := bne_eq_false_iff_eq.mpr c40
                                  clear c40
                                  have H' := Aside0.mk H
                                  clear H
                                  have p635 : 0 ≤ (x12_2 : Int) := of_decide_eq_true (by first | (with_reducible assumption) | assumption)
                                  have q635 : x12_2 < (t623.length : Int) := of_decide_eq_true (by first | (with_reducible assumption) | assumption)
                                  obtain ⟨ad635, e635, hx635_0⟩ := Kd.at_int (Kd.R_reads' HO_7.out).2.2 x12_2 p635 q635
                                  cases e635
                                  replace p635 := eq_true p635
                                  replace q635 := eq_true q635
                                  go_wp2
                                  go_roundg k3
                                  case measure => have := HJ8.out; have := HK2.out; have := HK3.out; omega
                                  case rel => exact ⟨(wrap64 (x12_2 + 1)), (by first | rfl | (simp; done) | (simp [*]; done)), H', ⟨by have := HJ8.out; have := HK2.out; have := HK3.out; omega⟩, ⟨by (with_reducible repeat (first | apply Kd.R_alloc | apply Kd.R_drewN | apply Kd.R_drew)); exact HO_7.out⟩, ⟨by (with_reducible repeat (first | apply Kd.R_alloc | apply Kd.R_drewN | apply Kd.R_drew)); exact HO_10.out⟩, ⟨by (with_reducible repeat (first | apply Kd.S_alloc | apply Kd.S_drewN | apply Kd.S_drew)); exact HO_623002.out⟩, ⟨by (with_reducible repeat (first | refine blk_drewN ?_ _ | refine blk_drew ?_ | refine blk_alloc ?_ _)); exact BK622.out⟩, ⟨by repeat (first | (with_reducible first | exact HB.out | apply below_alloc | apply pw_below_drewN | apply below_drew1 | refine below_set ?_ GE622.out) | exact HB.out)⟩⟩
                                · rw [if_neg c40] at H
                                  have c40b0 : (x13_3 == (rd t623 x12_2)) = false := beq_eq_false_iff_ne.mpr c40
                                  have c40b1 : (x13_3 != (rd t623 x12_2)) = true := bne_iff_ne.mpr c40
                                  obtain rfl := Option.some.inj H
                                  have p635 : 0 ≤ (x12_2 : Int) := of_decide_eq_true (by first | (with_reducible assumption) | assumption)
                                  have q635 : x12_2 < (t623.length : Int) := of_decide_eq_true (by first | (with_reducible assumption) | assumption)
                                  obtain ⟨ad635, e635, hx635_0⟩ := Kd.at_int (Kd.R_reads' HO_7.out).2.2 x12_2 p635 q635
                                  cases e635
                                  replace p635 := eq_true p635
                                  replace q635 := eq_true q635
                                  go_wp2
                                  go_ret
                                  exact ⟨by first | rfl | (simp [errW_none, errW_some] <;> rfl) | (simp [*, errW_none, errW_some] <;> rfl), by repeat (first | (with_reducible first | exact HB.out | apply below_alloc | apply pw_below_drewN | apply below_drew1 | refine below_set ?_ GE622.out) | exact HB.out)⟩
                              · rw [if_neg c39] at H
                                exact absurd H (by simp)
                            · rw [if_neg c38] at H
                              exact absurd H (by simp)
                    · rw [if_neg c28] at H
                      have c28b0 : decide (x12_2 < t618) = false := decide_eq_false c28
                      clear c28
                      have H' := Aside0.mk H
                      clear H
                      have hcz41_0 : wr.cell? ⟨gb622, 0, none⟩ = some (.int .i64 t617) := (blk_cell BK622.out 0).trans rfl
                      have hcz41_1 : wr.cell? ⟨gb622, 1, none⟩ = some (.int .i64 t618) := (blk_cell BK622.out 1).trans rfl
                      have hcz41_2 : wr.cell? ⟨gb622, 2, none⟩ = some (.slice Ao13 t619.length co13) := (blk_cell BK622.out 2).trans rfl
                      have hfz41_0 := blk_frozen BK622.out 0
                      have hfz41_1 := blk_frozen BK622.out 1
                      have hfz41_2 := blk_frozen BK622.out 2
                      go_wp2
                      go_meet
                      case rel => exact ⟨_, H', ⟨by have := HJ8.out; have := HK2.out; first | omega | exact Nat.le_refl _⟩, ⟨by (with_reducible repeat (first | apply Kd.R_alloc | apply Kd.R_drewN | apply Kd.R_drew)); exact Kd.R_mono HO_7.out (fun _ hk => trivial)⟩, ⟨by (with_reducible repeat (first | apply Kd.S_alloc | apply Kd.S_drewN | apply Kd.S_drew)); exact Kd.S_mono HO_623002.out (fun _ hk => hk.1)⟩, ⟨by (with_reducible repeat (first | refine blk_drewN ?_ _ | refine blk_drew ?_ | refine blk_alloc ?_ _)); exact BK622.out⟩, ⟨by repeat (first | (with_reducible first | exact HB.out | apply below_alloc | apply pw_below_drewN | apply below_drew1 | refine below_set ?_ GE622.out) | exact HB.out)⟩⟩
              · rw [if_neg c26] at H
                have c26b0 : ((t628.length : Int) == (t619.length : Int)) = false := beq_eq_false_iff_ne.mpr c26
                have c26b1 : ((t628.length : Int) != (t619.length : Int)) = true := bne_iff_ne.mpr c26
                have c26b2 : (t628.length == t619.length) = false := by first | simpa using c26 | (simp at c26 ⊢; omega)
                (first | rw [c26b0] | (simp only [i64_w, i32_w]; rw [c26b0]) | skip)
                obtain rfl := Option.some.inj H
                obtain ⟨Ao42, co42, eo42⟩ := Kd.R_slice HO_10.out
                subst eo42
                go_wp2
                go_ret
                exact ⟨by first | rfl | (simp [errW_none, errW_some] <;> rfl) | (simp [*, errW_none, errW_some] <;> rfl), by repeat (first | (with_reducible first | exact HB.out | apply below_alloc | apply pw_below_drewN | apply below_drew1 | refine below_set ?_ GE622.out) | exact HB.out)⟩
            · replace c25 := Bool.eq_false_iff.mpr c25
              subst c25
              have H1 : (laws_FnCombination.j3 kj8 (t619.length : Int) t623 t617 t618 t619) = some r := by rw [if_neg (show ¬ (false = true) by decide)] at H; exact H
              clear H
              have H := H1
              clear H1
              have H' := Aside0.mk H
              clear H
              go_wp2
              go_meet
              case rel => exact ⟨_, H', ⟨by have := HJ8.out; first | omega | exact Nat.le_refl _⟩, ⟨by (with_reducible repeat (first | apply Kd.R_alloc | apply Kd.R_drewN | apply Kd.R_drew)); exact Kd.R_mono HO_7.out (fun _ hk => trivial)⟩, ⟨by (with_reducible repeat (first | apply Kd.S_alloc | apply Kd.S_drewN | apply Kd.S_drew)); exact Kd.S_mono HO_623002.out (fun _ hk => hk.1)⟩, ⟨by (with_reducible repeat (first | refine blk_drewN ?_ _ | refine blk_drew ?_ | refine blk_alloc ?_ _)); exact BK622.out⟩, ⟨by repeat (first | (with_reducible first | exact HB.out | apply below_alloc | apply pw_below_drewN | apply below_drew1 | refine below_set ?_ GE622.out) | exact HB.out)⟩⟩
          case rest =>
            clear HC24
            try clear c1
            try clear c2
            try clear p2
            try clear c3
            try clear c4
            try clear c6
            try clear p6
            try clear q6
            try clear hx6
            try clear c10
            try clear c20
            try clear c20b0
            try clear c20b1
            try clear c21
            try clear c21b0
            try clear c21b1
            try clear c21b2
            try clear c22
            try clear c22b0
            try clear c22b1
            try clear c23
            try clear c25
            try clear c26
            try clear c26b0
            try clear c26b1
            try clear c26b2
            try clear c27
            try clear c28
            try clear c28b0
            try clear c30
            try clear c30b0
            try clear c31
            try clear c31b0
            try clear c32
            try clear c32b0
            try clear c33
            try clear c33b0
            try clear c34
            try clear c34b0
            try clear c35
            try clear c35b0
            try clear c36
            try clear c36b0
            try clear c36b1
            try clear c37
            try clear c38
            try clear c38b0
            try clear c39
            try clear c39b0
            try clear c40
            try clear c40b0
            try clear c40b1
            try clear hcz12_0
            try clear hcz12_1
            try clear hcz12_2
            try clear hcz15_0
            try clear hcz15_1
            try clear hcz15_2
            try clear hcz18_0
            try clear hcz18_1
            try clear hcz18_2
            try clear hcz29_0
            try clear hcz29_1
            try clear hcz29_2
            try clear hcz41_0
            try clear hcz41_1
            try clear hcz41_2
            try clear hfz12_0
            try clear hfz12_1
            try clear hfz12_2
            try clear hfz15_0
            try clear hfz15_1
            try clear hfz15_2
            try clear hfz18_0
            try clear hfz18_1
            try clear hfz18_2
            try clear hfz29_0
            try clear hfz29_1
            try clear hfz29_2
            try clear hfz41_0
            try clear hfz41_1
            try clear hfz41_2
            try clear hx632_0
            try clear hx633_0
            try clear hx634_0
            try clear hx635_0
            try clear p2
            try clear p632
            try clear p633
            try clear p634
            try clear p635
            try clear q632
            try clear q633
            try clear q634
            try clear q635
            obtain ⟨kq, HA, HJ23, HO_7, HO_623002, BK622, HB⟩ := hcut
            cases kq with
            | zero => exact absurd HA.out (by simp [laws_FnCombination.j3])
            | succ kj23 =>
              have H := HA.out
              clear HA
              simp only [laws_FnCombination.j3] at H
              obtain ⟨y636, hy636⟩ : ∃ y_ : List Int, y_ = (([] : List Int)) := ⟨_, rfl⟩
              replace H : (laws_FnCombination.l2 kj23 (t619.length : Int) t623 y636 0 t617 t618 t619) = some r := by first | (rw [hy636]; with_reducible exact H) | (have H2_ := (Option.bind_some _ _).symm.trans H; rw [hy636]; with_reducible exact H2_) | (have H2_ := (Option.bind_some _ _).symm.trans H; with_reducible exact H2_) | with_reducible exact H | (rw [hy636]; exact H) | exact H
              have Ny636 := Aside0.mk hy636
              clear hy636
              have H' := Aside0.mk H
              clear H
              go_wp2_with (first | ((with_reducible refine gate_dst (N := 102) rfl ?_); (try (refine gate_guard (by rfl) ?_; dsimp only)); refine Kd.R_lit (Kd.int .i64) _ 2 ?hg (N := 102) ?hd (xs := ([] : List Int)) (inner := []) (ok := fun _ => True) (okp := fun _ => True) ?hr ?hp (fun _ hk => hk) trivial (Below.refl _ _) (Nat.le_refl _) (by simp) ?_; (case hd => rfl); (case hg => rfl); (case hr => first | (go_simp; done) | (go_simp; rfl)); (case hp => exact (Reps.none _ _)); intro v637 w43 ho44 hb hg_ hnew_; clear hg_ hnew_; (first | rw [← Ny636.out] at ho44 | (simp only [Int.reduceToNat] at ho44; rw [← Ny636.out] at ho44)); have n0_ := Aside0.mk (Kd.R_elder' (by (with_reducible repeat (first | apply Kd.R_alloc | apply Kd.R_drewN | apply Kd.R_drew)); exact HO_7.out) (Kd.R_base ho44) hb); have n1_ := Aside0.mk (Kd.S_elder' (by (with_reducible repeat (first | apply Kd.S_alloc | apply Kd.S_drewN | apply Kd.S_drew)); exact HO_623002.out) (Kd.R_base ho44) hb); have n2_ := Aside0.mk (Kd.R_lower (Kd.R_new' ho44 (Kd.R_lt (by (with_reducible repeat (first | apply Kd.R_alloc | apply Kd.R_drewN | apply Kd.R_drew)); exact HO_7.out))) (below_size (by repeat (first | (with_reducible first | exact HB.out | apply below_alloc | apply pw_below_drewN | apply below_drew1 | refine below_set ?_ GE622.out) | exact HB.out)))); have n3_ := Aside0.mk (blk_below (g := gb622) (o := .cells #[.int .i64 t617, .int .i64 t618, .slice Ao13 t619.length co13] 26 (0, 0)) (by (with_reducible repeat (first | refine blk_drewN ?_ _ | refine blk_drew ?_ | refine blk_alloc ?_ _)); exact BK622.out) hb); have n4_ := Aside0.mk (below_step (by repeat (first | (with_reducible first | exact HB.out | apply below_alloc | apply pw_below_drewN | apply below_drew1 | refine below_set ?_ GE622.out) | exact HB.out)) hb); clear HO_7; clear HO_623002; clear BK622; clear HB; have HO_7 := n0_; have HO_623002 := n1_; have HO638 := n2_; have BK622 := n3_; have HB := n4_; clear n0_ n1_ n2_ n3_ n4_; clear hb ho44))
              go_loopg [15, 16] kj23 (fun kq v15 v16 w' => ∃ (x15_3 : List Int) (x16_3 : Int), v16 = .int .i64 x16_3 ∧ Aside0 (laws_FnCombination.l2 kq (t619.length : Int) t623 x15_3 x16_3 t617 t618 t619 = some r) ∧ Aside0 (kq ≤ kj23) ∧ Aside0 (Kd.R (Kd.int .i64) 2 w' w.heap.size (fun k_ => some k_ ≠ (v15 : Value).ownBlock) (.slice Ao16 t623.length co16) t623) ∧ Aside0 (Kd.R (Kd.int .i64) 2 w' w.heap.size (fun k_ => some k_ ≠ ((.slice Ao16 t623.length co16) : Value).ownBlock) v15 x15_3) ∧ Aside0 (Kd.S (Kd.slice 2 (Kd.int .i64)) 35 w' w.heap.size (fun k_ => some k_ ≠ ((.slice Ao16 t623.length co16) : Value).ownBlock ∧ some k_ ≠ (v15 : Value).ownBlock) (.slice Ao13 t619.length co13) t619) ∧ Aside0 (w'.heap[gb622]? = some (.cells #[.int .i64 t617, .int .i64 t618, (.slice Ao13 t619.length co13)] 26 (0, 0))) ∧ Aside0 (Below w.heap.size w w'))
              case atStart => exact ⟨(y636), (0), (by first | rfl | (simp; done) | (simp [*]; done)), H', ⟨Nat.le_refl _⟩, ⟨by (with_reducible repeat (first | apply Kd.R_alloc | apply Kd.R_drewN | apply Kd.R_drew)); exact Kd.R_mono HO_7.out (fun _ hk => hk.2)⟩, ⟨by (with_reducible repeat (first | apply Kd.R_alloc | apply Kd.R_drewN | apply Kd.R_drew)); exact Kd.R_mono HO638.out (fun _ hk => hk.2)⟩, ⟨by (with_reducible repeat (first | apply Kd.S_alloc | apply Kd.S_drewN | apply Kd.S_drew)); exact HO_623002.out⟩, ⟨by (with_reducible repeat (first | refine blk_drewN ?_ _ | refine blk_drew ?_ | refine blk_alloc ?_ _)); exact BK622.out⟩, ⟨by repeat (first | (with_reducible first | exact HB.out | apply below_alloc | apply pw_below_drewN | apply below_drew1 | refine below_set ?_ GE622.out) | exact HB.out)⟩⟩
              case round =>
                clear H'
                try clear c1
                try clear c2
                try clear p2
                try clear c3
                try clear c4
                try clear c6
                try clear p6
                try clear q6
                try clear hx6
                try clear c10
                try clear c20
                try clear c20b0
                try clear c20b1
                try clear c21
                try clear c21b0
                try clear c21b1
                try clear c21b2
                try clear c22
                try clear c22b0
                try clear c22b1
                try clear c23
                try clear c25
                try clear c26
                try clear c26b0
                try clear c26b1
                try clear c26b2
                try clear c27
                try clear c28
                try clear c28b0
                try clear c30
                try clear c30b0
                try clear c31
                try clear c31b0
                try clear c32
                try clear c32b0
                try clear c33
                try clear c33b0
                try clear c34
                try clear c34b0
                try clear c35
                try clear c35b0
                try clear c36
                try clear c36b0
                try clear c36b1
                try clear c37
                try clear c38
                try clear c38b0
                try clear c39
                try clear c39b0
                try clear c40
                try clear c40b0
                try clear c40b1
                try clear hcz12_0
                try clear hcz12_1
                try clear hcz12_2
                try clear hcz15_0
                try clear hcz15_1
                try clear hcz15_2
                try clear hcz18_0
                try clear hcz18_1
                try clear hcz18_2
                try clear hcz29_0
                try clear hcz29_1
                try clear hcz29_2
                try clear hcz41_0
                try clear hcz41_1
                try clear hcz41_2
                try clear hfz12_0
                try clear hfz12_1
                try clear hfz12_2
                try clear hfz15_0
                try clear hfz15_1
                try clear hfz15_2
                try clear hfz18_0
                try clear hfz18_1
                try clear hfz18_2
                try clear hfz29_0
                try clear hfz29_1
                try clear hfz29_2
                try clear hfz41_0
                try clear hfz41_1
                try clear hfz41_2
                try clear hx632_0
                try clear hx633_0
                try clear hx634_0
                try clear hx635_0
                try clear p2
                try clear p6
                try clear p632
                try clear p633
                try clear p634
                try clear p635
                try clear q6
                try clear q632
                try clear q633
                try clear q634
                try clear q635
                obtain ⟨x15_3, x16_3, rfl, HA, HK3, HO_7, HO_15, HO_623002, BK622, HB⟩ := hrel
                cases gk with
                | zero => exact absurd HA.out (by simp [laws_FnCombination.l2])
                | succ k3 =>
                  have H := HA.out
                  clear HA
                  simp only [laws_FnCombination.l2] at H
                  by_cases c45 : x16_3 < (t619.length : Int)
                  · rw [if_pos c45] at H
                    have c45b0 : decide (x16_3 < (t619.length : Int)) = true := decide_eq_true c45
                    clear c45
                    by_cases c46 : 0 ≤ x16_3
                    · rw [if_pos c46] at H
                      have c46b0 : decide (0 ≤ x16_3) = true := decide_eq_true c46
                      clear c46
                      by_cases c47 : x16_3 < (t619.length : Int)
                      · rw [if_pos c47] at H
                        have c47b0 : decide (x16_3 < (t619.length : Int)) = true := decide_eq_true c47
                        clear c47
                        replace H := Option.bind_eq_some_iff.mp H
                        obtain ⟨t640, A480, H⟩ := H
                        replace H : (if x15_3.length < 17592186044416 then (laws_FnCombination.l2 k3 (t619.length : Int) t623 (x15_3 ++ [t640]) (wrap64 (x16_3 + 1)) t617 t618 t619) else (none)) = some r := H
                        have A48 := Aside0.mk A480
                        clear A480
                        by_cases c49 : x15_3.length < 17592186044416
                        · rw [if_pos c49] at H
                          have LMc49 := Aside0.mk c49
                          clear c49
                          obtain ⟨y641, hy641⟩ : ∃ y_ : List Int, y_ = (x15_3 ++ [t640]) := ⟨_, rfl⟩
                          replace H : (laws_FnCombination.l2 k3 (t619.length : Int) t623 y641 (wrap64 (x16_3 + 1)) t617 t618 t619) = some r := by first | (rw [hy641]; with_reducible exact H) | (have H2_ := (Option.bind_some _ _).symm.trans H; rw [hy641]; with_reducible exact H2_) | (have H2_ := (Option.bind_some _ _).symm.trans H; with_reducible exact H2_) | with_reducible exact H | (rw [hy641]; exact H) | exact H
                          have Ny641 := Aside0.mk hy641
                          clear hy641
                          have H' := Aside0.mk H
                          clear H
                          try go_wp2
                          have n0_ := Aside0.mk (Kd.R_drew HO_7.out)
                          have n1_ := Aside0.mk (Kd.R_drew HO_15.out)
                          have n2_ := Aside0.mk (Kd.S_drew HO_623002.out)
                          have n3_ := Aside0.mk (blk_drew BK622.out)
                          have n4_ := Aside0.mk (below_drew1 HB.out)
                          clear HO_7
                          clear HO_15
                          clear HO_623002
                          clear BK622
                          clear HB
                          have HO_7 := n0_
                          have HO_15 := n1_
                          have HO_623002 := n2_
                          have BK622 := n3_
                          have HB := n4_
                          clear n0_ n1_ n2_ n3_ n4_
                          have p639 : 0 ≤ (x16_3 : Int) := of_decide_eq_true (by first | (with_reducible assumption) | assumption)
                          have q639 : x16_3 < (t619.length : Int) := of_decide_eq_true (by first | (with_reducible assumption) | assumption)
                          obtain ⟨ad639, A639_0, c639_0, e639, hx639_0, hl639_0, hi639_0⟩ := at_L1 (Kd.S_reads' HO_623002.out).2.2 x16_3 p639 q639
                          cases e639
                          obtain ⟨ce639, hce639, hMe639, hcc639⟩ := Kd.S_get HO_623002.out [] x16_3 p639 (by first | exact q639 | exact of_decide_eq_true (by first | (with_reducible assumption) | assumption) | (have e_ := (Kd.S_reads' HO_623002.out).1; omega))
                          obtain ⟨ve639_0, rfl, ge639_0⟩ := hMe639
                          have hv639_0 := hcc639 0 _ rfl
                          rw [Nat.add_zero, show ((Kd.slice 2 (Kd.int .i64))).sz = 1 from rfl, Nat.mul_one] at hv639_0
                          replace hv639_0 := Option.some.inj (hv639_0.symm.trans hx639_0)
                          rw [hv639_0] at ge639_0
                          have HL639_0 := Aside0.mk (show Kd.R (Kd.int .i64) 2 _ _ _ _ (rd_L1 t619 x16_3) from ge639_0)
                          clear hv639_0 ge639_0
                          clear hcc639 hce639
                          have HR639_0 := Aside0.mk hi639_0
                          have HC639_0 := Aside0.mk hl639_0
                          clear hi639_0 hl639_0
                          replace p639 := eq_true p639
                          replace q639 := eq_true q639
                          refine start_ (n := 13) (S := fun w' => w'.cell? ⟨gb622, 0, none⟩ = some (.int .i64 t617) ∧ w'.cell? ⟨gb622, 1, none⟩ = some (.int .i64 t618) ∧ w'.cell? ⟨gb622, 2, none⟩ = some (.slice (some ad639) t619.length co13) ∧ w'.cell? (ad639.add (x16_3).toNat) = some (.slice A639_0 (rd_L1 t619 x16_3).length c639_0)) (ds := [10, 11]) #[false, false, false, false, false, false, false, false, false, false, false, false, false] (by kernel_rfl) rfl rfl ⟨(blk_cell BK622.out 0).trans rfl, (blk_cell BK622.out 1).trans rfl, (blk_cell BK622.out 2).trans rfl, hx639_0⟩ (fun hHeld => ?_); refine with_tabW laws_FnCombination.tab27 laws_FnCombination.bits27 (fun HT_ HW_ => ?_)
                          generalize wr.drew = w50 at HO_7 HO_15 HO_623002 BK622 HB HL639_0 HR639_0 hx639_0 hHeld ⊢
                          refine pure_ (i := 0) (N := some 108) (v := ?_) (a' := ?_) #[true, false, false, false, false, false, false, false, false, false, false, false, false] rfl rfl (any_of HT_.out (by kernel_rfl)) (fun _ _ _ h => h) (Or.inl ⟨by rfl, ?_⟩) ?_ ?_
                          rotate_left
                          · intro w'
                            first | (go_simp; with_reducible rfl) | (simp [go_sem, Instr.field, asAgg] <;> with_reducible rfl)
                          rotate_left
                          · simp only [Act.put, List.setIfInBounds_toArray, List.set_cons_zero, List.set_cons_succ, i64_w, i32_w]
                            rfl
                          refine pure_ (i := 1) (N := some 109) (v := ?_) (a' := ?_) #[true, true, false, false, false, false, false, false, false, false, false, false, false] rfl rfl (any_of HT_.out (by kernel_rfl)) (fun _ _ _ h => h) (Or.inl ⟨by rfl, ?_⟩) ?_ ?_
                          rotate_left
                          · intro w'
                            first | (go_simp; with_reducible rfl) | (simp [go_sem, Instr.field, asAgg] <;> with_reducible rfl)
                          rotate_left
                          · simp only [Act.put, List.setIfInBounds_toArray, List.set_cons_zero, List.set_cons_succ, i64_w, i32_w]
                            rfl
                          refine pure_ (i := 3) (N := some 111) (v := ?_) (a' := ?_) #[true, true, false, true, false, false, false, false, false, false, false, false, false] rfl rfl (any_of HT_.out (by kernel_rfl)) (fun _ _ _ h => h) (Or.inl ⟨by rfl, ?_⟩) ?_ ?_
                          rotate_left
                          · intro w'
                            first | (go_simp; with_reducible rfl) | (simp [go_sem, Instr.field, asAgg] <;> with_reducible rfl)
                          rotate_left
                          · simp only [Act.put, List.setIfInBounds_toArray, List.set_cons_zero, List.set_cons_succ, i64_w, i32_w]
                            rfl
                          refine pure_ (i := 5) (N := some 113) (v := ?_) (a' := ?_) #[true, true, false, true, false, true, false, false, false, false, false, false, false] rfl rfl (any_of HT_.out (by kernel_rfl)) (fun _ _ _ h => h) (Or.inl ⟨by rfl, ?_⟩) ?_ ?_
                          rotate_left
                          · intro w'
                            first | (go_simp; with_reducible rfl) | (simp [go_sem, Instr.field, asAgg] <;> with_reducible rfl)
                          rotate_left
                          · simp only [Act.put, List.setIfInBounds_toArray, List.set_cons_zero, List.set_cons_succ, i64_w, i32_w]
                            rfl
                          refine pure_ (i := 8) (N := some 116) (v := ?_) (a' := ?_) #[true, true, false, true, false, true, false, false, true, false, false, false, false] rfl rfl (any_of HT_.out (by kernel_rfl)) (fun _ _ _ h => h) (Or.inl ⟨by rfl, ?_⟩) ?_ ?_
                          rotate_left
                          · intro w'
                            first | (go_simp; with_reducible rfl) | (simp [go_sem, Instr.field, asAgg] <;> with_reducible rfl)
                          rotate_left
                          · simp only [Act.put, List.setIfInBounds_toArray, List.set_cons_zero, List.set_cons_succ, i64_w, i32_w]
                            rfl
                          refine take_ (i := 2) (N := some 110) (v := ?_) (a' := ?_) #[true, true, true, true, false, true, false, false, true, false, false, false, false] rfl rfl (take_ofW HT_.out HW_.out (by kernel_rfl)) (fun _ _ _ h => h) (Or.inl ⟨by rfl, ?_⟩) hHeld ?_ ?_
                          rotate_left
                          · rintro w' ⟨s0, s1, s2, s3⟩
                            go_simp
                            with_reducible rfl
                          rotate_left
                          · simp only [Act.put, List.setIfInBounds_toArray, List.set_cons_zero, List.set_cons_succ, i64_w, i32_w]
                            rfl
                          refine take_ (i := 4) (N := some 112) (v := ?_) (a' := ?_) #[true, true, true, true, true, true, false, false, true, false, false, false, false] rfl rfl (take_ofW HT_.out HW_.out (by kernel_rfl)) (fun _ _ _ h => h) (Or.inl ⟨by rfl, ?_⟩) hHeld ?_ ?_
                          rotate_left
                          · rintro w' ⟨s0, s1, s2, s3⟩
                            go_simp
                            with_reducible rfl
                          rotate_left
                          · simp only [Act.put, List.setIfInBounds_toArray, List.set_cons_zero, List.set_cons_succ, i64_w, i32_w]
                            rfl
                          refine pure_ (i := 6) (N := some 114) (v := ?_) (a' := ?_) #[true, true, true, true, true, true, true, false, true, false, false, false, false] rfl rfl (any_of HT_.out (by kernel_rfl)) (fun _ _ _ h => h) (Or.inl ⟨by rfl, ?_⟩) ?_ ?_
                          rotate_left
                          · intro w'
                            first | (go_simp; with_reducible rfl) | (simp [go_sem, Instr.field, asAgg] <;> with_reducible rfl)
                          rotate_left
                          · simp only [Act.put, List.setIfInBounds_toArray, List.set_cons_zero, List.set_cons_succ, i64_w, i32_w]
                            rfl
                          refine take_ (i := 7) (N := some 115) (v := ?_) (a' := ?_) #[true, true, true, true, true, true, true, true, true, false, false, false, false] rfl rfl (take_ofW HT_.out HW_.out (by kernel_rfl)) (fun _ _ _ h => h) (Or.inl ⟨by rfl, ?_⟩) hHeld ?_ ?_
                          rotate_left
                          · rintro w' ⟨s0, s1, s2, s3⟩
                            go_simp
                            with_reducible rfl
                          rotate_left
                          · simp only [Act.put, List.setIfInBounds_toArray, List.set_cons_zero, List.set_cons_succ, i64_w, i32_w]
                            rfl
                          refine one_ (i := 9) (N := some 117) #[true, true, true, true, true, true, true, true, true, true, false, false, false] rfl rfl (one_of HT_.out (by kernel_rfl)) (by decide) (fun K hK => ?_)
                          refine goes_ Try.func38 (by kernel_rfl) rfl #[.int .i64 t617, .slice A639_0 (rd_L1 t619 x16_3).length c639_0, .slice Ao16 t623.length co16] (by rfl) rfl rfl (by (try simp only [List.map_toArray, List.map_cons, List.map_nil]); first | done | rfl | (simp only [List.length_drop, List.length_take]; rfl)) ?_
                          with_reducible refine (laws_a2Dot.calls k3 t617 _ _ (rd_L1 t619 x16_3) _ _ t623 t640 _ ?side1 ?side2 ?side3 ?side4 A48.out).mono ?_
                          (case side1 => repeat (first | exact (by repeat (first | (with_reducible exact HR639_0.out) | (with_reducible refine Kd.C_alloc ?_ _) | (with_reducible refine Kd.C_drewN ?_ _) | (with_reducible refine Kd.C_drew ?_) | exact HR639_0.out)) | (with_reducible refine Kd.C_alloc ?_ _) | (with_reducible refine Kd.C_drewN ?_ _) | (with_reducible refine Kd.C_drew ?_)))
                          (case side2 => exact HC639_0.out)
                          (case side3 => repeat (first | exact (Kd.R_reads' HO_7.out).2.2 | (with_reducible refine Kd.C_alloc ?_ _) | (with_reducible refine Kd.C_drewN ?_ _) | (with_reducible refine Kd.C_drew ?_)))
                          (case side4 => exact (Kd.R_reads' HO_7.out).2.1)
                          rintro e w' ⟨rfl, ⟨nd, rfl⟩⟩
                          refine ⟨_, rfl, ?_⟩
                          refine hK.out _ _ ⟨(blk_cell BK622.out 0).trans rfl, (blk_cell BK622.out 1).trans rfl, (blk_cell BK622.out 2).trans rfl, hHeld.2.2.2⟩ (fun hHeld => ?_)
                          clear hK K
                          refine norm_ (a' := ?_) ?_ ?_
                          rotate_left
                          · show Act.put _ (some 117) _ = _
                            simp only [Act.put, List.setIfInBounds_toArray, List.set_cons_zero, List.set_cons_succ, i64_w, i32_w]
                            rfl
                          refine last_ (i := 10) (N := some 118) #[true, true, true, true, true, true, true, true, true, true, true, false, false] rfl rfl (one_of HT_.out (by kernel_rfl)) (by decide) (fun K hK => ?_)
                          refine value_ (w1 := ?_) (v := ?_) (by rfl) rfl ?_ ?_
                          rotate_left 2
                          · go_simp
                            constructor
                            · rfl
                            · rfl
                          refine hK.out _ _ ?_
                          clear hK K
                          refine norm_ (a' := ?_) ?_ ?_
                          rotate_left
                          · show Act.put _ (some 118) _ = _
                            simp only [Act.put, List.setIfInBounds_toArray, List.set_cons_zero, List.set_cons_succ, i64_w, i32_w]
                            rfl
                          refine last_ (i := 11) (N := some 119) #[true, true, true, true, true, true, true, true, true, true, true, true, false] rfl rfl (one_of HT_.out (by kernel_rfl)) (by decide) (fun K hK => ?_)
                          refine Kd.R_append_step (Kd.int .i64) (w0 := w) w.heap.size (by rfl) (.tmp 108) (.tmp 118) 35 2 (.int .i64 0) 8 rfl Try.underlying35 info2 rfl (by decide) (by omega) u15 x15_3 t640 [.int .i64 t640] (fun k_ => some k_ ≠ (.slice Ao16 t623.length co16 : Value).ownBlock) (fun _ => False) rfl rfl ?aP (fun _ hk => hk.elim) ?aF ?aO ?aB ?aS ?aL ?_
                          (case aP => exact rfl)
                          (case aB => exact (by repeat (first | (with_reducible first | exact HB.out | apply below_alloc | apply pw_below_drewN | apply below_drew1 | refine below_set ?_ GE622.out) | exact HB.out)))
                          (case aF => exact (fun k_ hk => Kd.fresh' (Kd.R_lt (by (with_reducible repeat (first | apply Kd.R_alloc | apply Kd.R_drewN | apply Kd.R_drew)); exact HO_7.out)) k_ hk))
                          (case aO => exact (by (with_reducible repeat (first | apply Kd.R_alloc | apply Kd.R_drewN | apply Kd.R_drew)); exact HO_15.out))
                          (case aS => exact (below_size (by repeat (first | (with_reducible first | exact HB.out | apply below_alloc | apply pw_below_drewN | apply below_drew1 | refine below_set ?_ GE622.out) | exact HB.out))))
                          (case aL => have := LMc49.out; omega)
                          intro v642 w51 ho hb hg hat
                          rw [← Ny641.out] at ho
                          have n0_ := Aside0.mk (Kd.R_after (ok := (fun _ => True)) (by (with_reducible repeat (first | apply Kd.R_alloc | apply Kd.R_drewN | apply Kd.R_drew)); exact Kd.R_mono HO_7.out (fun _ hk => ⟨trivial, hk⟩)) hg hat)
                          have n1_ := Aside0.mk (Kd.S_after (ok := (fun k_ => some k_ ≠ (.slice Ao16 t623.length co16 : Value).ownBlock)) (by (with_reducible repeat (first | apply Kd.S_alloc | apply Kd.S_drewN | apply Kd.S_drew)); exact HO_623002.out) hg hat)
                          have n2_ := Aside0.mk (blk_grown (g := gb622) (o := .cells #[.int .i64 t617, .int .i64 t618, .slice (some ad639) t619.length co13] 26 (0, 0)) (by (with_reducible repeat (first | refine blk_drewN ?_ _ | refine blk_drew ?_ | refine blk_alloc ?_ _)); exact BK622.out) hg (Kd.R_ne HO_15.out BK622.out (by decide)))
                          have n3_ := Aside0.mk (Kd.R_after (ok := (fun k_ => some k_ ≠ (.slice Ao16 t623.length co16 : Value).ownBlock ∧ some k_ ≠ (.slice (some ad639) t619.length co13 : Value).ownBlock)) (by (with_reducible repeat (first | apply Kd.R_alloc | apply Kd.R_drewN | apply Kd.R_drew)); exact Kd.R_mono HL639_0.out (fun _ hk => ⟨⟨hk.1.1, hk.2⟩, hk.1.2⟩)) hg hat)
                          have n4_ := Aside0.mk (hb)
                          have n5_ := Aside0.mk (ho)
                          clear HO_7
                          clear HO_623002
                          clear BK622
                          clear HL639_0
                          clear HB
                          clear HO_15
                          have HO_7 := n0_
                          have HO_623002 := n1_
                          have BK622 := n2_
                          have HL639_0 := n3_
                          have HB := n4_
                          have HO643 := n5_
                          clear n0_ n1_ n2_ n3_ n4_ n5_
                          clear ho hb hg hat
                          refine hK.out _ _ ?_
                          clear hK K
                          refine norm_ (a' := ?_) ?_ ?_
                          rotate_left
                          · show Act.put _ (some 119) _ = _
                            simp only [Act.put, List.setIfInBounds_toArray, List.set_cons_zero, List.set_cons_succ, i64_w, i32_w]
                            rfl
                          refine pure_ (i := 12) (N := some 15) (v := ?_) (a' := ?_) #[true, true, true, true, true, true, true, true, true, true, true, true, true] rfl rfl (any_of HT_.out (by kernel_rfl)) (fun _ _ _ h => h) (Or.inl ⟨by rfl, ?_⟩) ?_ ?_
                          rotate_left
                          · intro w'
                            first | (go_simp; with_reducible rfl) | (simp [go_sem, Instr.field, asAgg] <;> with_reducible rfl)
                          rotate_left
                          · simp only [Act.put, List.setIfInBounds_toArray, List.set_cons_zero, List.set_cons_succ, i64_w, i32_w]
                            rfl
                          refine done_ (done_of HT_.out (by kernel_rfl)) ?_
                          try go_wp2
                          go_roundg k3
                          case measure => have := HJ8.out; have := HJ23.out; have := HK3.out; omega
                          case rel => exact ⟨(y641), (wrap64 (x16_3 + 1)), (by first | rfl | (simp; done) | (simp [*]; done)), H', ⟨by have := HJ8.out; have := HJ23.out; have := HK3.out; omega⟩, ⟨by (with_reducible repeat (first | apply Kd.R_alloc | apply Kd.R_drewN | apply Kd.R_drew)); exact Kd.R_mono HO_7.out (fun _ hk => hk.2)⟩, ⟨by (with_reducible repeat (first | apply Kd.R_alloc | apply Kd.R_drewN | apply Kd.R_drew)); exact HO643.out⟩, ⟨by (with_reducible repeat (first | apply Kd.S_alloc | apply Kd.S_drewN | apply Kd.S_drew)); exact HO_623002.out⟩, ⟨by (with_reducible repeat (first | refine blk_drewN ?_ _ | refine blk_drew ?_ | refine blk_alloc ?_ _)); exact BK622.out⟩, ⟨by repeat (first | (with_reducible first | exact HB.out | apply below_alloc | apply pw_below_drewN | apply below_drew1 | refine below_set ?_ GE622.out) | exact HB.out)⟩⟩
                        · rw [if_neg c49] at H
                          exact absurd H (by simp)
                      · rw [if_neg c47] at H
                        exact absurd H (by simp)
                    · rw [if_neg c46] at H
                      exact absurd H (by simp)
                  · rw [if_neg c45] at H
                    have c45b0 : decide (x16_3 < (t619.length : Int)) = false := decide_eq_false c45
                    clear c45
                    replace H := Option.bind_eq_some_iff.mp H
                    obtain ⟨⟨t644, t647⟩, A520, H⟩ := H
                    replace H : (if t647 = 0 then (laws_FnCombination.j5 k3 (t619.length : Int) x15_3 t644 ((t644.length : Int) != t618) t617 t618 t619) else (laws_FnCombination.j5 k3 (t619.length : Int) x15_3 t644 true t617 t618 t619)) = some r := H
                    have A52 := Aside0.mk A520
                    clear A520
                    have HC53 := Aside0.mk H
                    clear H
                    have hcz54_0 : wr.cell? ⟨gb622, 0, none⟩ = some (.int .i64 t617) := (blk_cell BK622.out 0).trans rfl
                    have hcz54_1 : wr.cell? ⟨gb622, 1, none⟩ = some (.int .i64 t618) := (blk_cell BK622.out 1).trans rfl
                    have hcz54_2 : wr.cell? ⟨gb622, 2, none⟩ = some (.slice Ao13 t619.length co13) := (blk_cell BK622.out 2).trans rfl
                    have hfz54_0 := blk_frozen BK622.out 0
                    have hfz54_1 := blk_frozen BK622.out 1
                    have hfz54_2 := blk_frozen BK622.out 2
                    obtain ⟨Ao55, co55, eo55⟩ := Kd.R_slice HO_15.out
                    subst eo55
                    go_upto_region 29 with (first | ((with_reducible refine gate_callee (f := 34) rfl ?_); refine goesL_ (some 123) rfl rfl Try.func34 (by kernel_rfl) rfl #[.agg #[.int .i64 t617, .int .i64 t618, .slice Ao13 t619.length co13], .slice Ao55 x15_3.length co55] rfl (by (try simp only [List.map_toArray, List.map_cons, List.map_nil]); first | done | rfl | (simp only [List.length_drop, List.length_take]; rfl)) ?_; (with_reducible refine (impl_SolveFor.calls k3 t617 t618 _ _ t619 _ _ x15_3 t644 t647 _ ?side1 ?side2 ?side3 ?side4 A52.out).mono ?_); (case side1 => repeat (first | exact (Kd.S_reads' HO_623002.out).2.2 | (with_reducible refine Kd.C_alloc ?_ _) | (with_reducible refine Kd.C_drewN ?_ _) | (with_reducible refine Kd.C_drew ?_))); (case side2 => exact (Kd.S_reads' HO_623002.out).2.1); (case side3 => repeat (first | exact (Kd.R_reads' HO_15.out).2.2 | (with_reducible refine Kd.C_alloc ?_ _) | (with_reducible refine Kd.C_drewN ?_ _) | (with_reducible refine Kd.C_drew ?_))); (case side4 => exact (Kd.R_reads' HO_15.out).2.1); rintro e w56 ⟨v645, rfl, ho0, hb⟩; refine ⟨_, rfl, ?_⟩; have n0_ := Aside0.mk (Kd.R_elder' (by (with_reducible repeat (first | apply Kd.R_alloc | apply Kd.R_drewN | apply Kd.R_drew)); exact HO_7.out) (Kd.R_base ho0) hb); have n1_ := Aside0.mk (Kd.R_elder' (by (with_reducible repeat (first | apply Kd.R_alloc | apply Kd.R_drewN | apply Kd.R_drew)); exact HO_15.out) (Kd.R_base ho0) hb); have n2_ := Aside0.mk (Kd.S_elder' (by (with_reducible repeat (first | apply Kd.S_alloc | apply Kd.S_drewN | apply Kd.S_drew)); exact HO_623002.out) (Kd.R_base ho0) hb); have n3_ := Aside0.mk (Kd.R_lower (Kd.R_new' (Kd.R_new' ho0 (Kd.R_lt (by (with_reducible repeat (first | apply Kd.R_alloc | apply Kd.R_drewN | apply Kd.R_drew)); exact HO_7.out))) (Kd.R_lt (by (with_reducible repeat (first | apply Kd.R_alloc | apply Kd.R_drewN | apply Kd.R_drew)); exact HO_15.out))) (below_size (by repeat (first | (with_reducible first | exact HB.out | apply below_alloc | apply pw_below_drewN | apply below_drew1 | refine below_set ?_ GE622.out) | exact HB.out)))); have n4_ := Aside0.mk (blk_below (g := gb622) (o := .cells #[.int .i64 t617, .int .i64 t618, .slice Ao13 t619.length co13] 26 (0, 0)) (by (with_reducible repeat (first | refine blk_drewN ?_ _ | refine blk_drew ?_ | refine blk_alloc ?_ _)); exact BK622.out) hb); have n5_ := Aside0.mk (below_step (by repeat (first | (with_reducible first | exact HB.out | apply below_alloc | apply pw_below_drewN | apply below_drew1 | refine below_set ?_ GE622.out) | exact HB.out)) hb); clear HO_7; clear HO_15; clear HO_623002; clear BK622; clear HB; have HO_7 := n0_; have HO_15 := n1_; have HO_623002 := n2_; have HO646 := n3_; have BK622 := n4_; have HB := n5_; clear n0_ n1_ n2_ n3_ n4_ n5_; (try clear hb); (try clear hb2); (try clear hk); (try clear hi); (try clear ho0)))
                    (try simp only [Act.put, List.setIfInBounds_toArray, List.set_cons_zero, List.set_cons_succ])
                    go_cut [134] (fun v134 wc => ∃ (kq : Nat) (x134_52 : Bool), v134 = .bool x134_52 ∧ Aside0 (laws_FnCombination.j5 kq (t619.length : Int) x15_3 t644 x134_52 t617 t618 t619 = some r) ∧ Aside0 (kq ≤ k3) ∧ Aside0 (Kd.R (Kd.int .i64) 2 wc w.heap.size (fun k_ => some k_ ≠ (v645 : Value).ownBlock) (.slice Ao55 x15_3.length co55) x15_3) ∧ Aside0 (Kd.R (Kd.int .i64) 2 wc w.heap.size (fun k_ => some k_ ≠ ((.slice Ao55 x15_3.length co55) : Value).ownBlock) v645 t644) ∧ Aside0 (Kd.S (Kd.slice 2 (Kd.int .i64)) 35 wc w.heap.size (fun k_ => some k_ ≠ ((.slice Ao55 x15_3.length co55) : Value).ownBlock ∧ some k_ ≠ (v645 : Value).ownBlock) (.slice Ao13 t619.length co13) t619) ∧ Aside0 (wc.heap[gb622]? = some (.cells #[.int .i64 t617, .int .i64 t618, (.slice Ao13 t619.length co13)] 26 (0, 0))) ∧ Aside0 (Below w.heap.size w wc))
                    case first =>
                      have H := HC53.out
                      clear HC53
                      by_cases c57 : t647 = 0
                      · rw [if_pos c57] at H
                        have c57b0 : (t647 == 0) = true := beq_iff_eq.mpr c57
                        have c57b1 : (t647 != 0) = false := bne_eq_false_iff_eq.mpr c57
                        clear c57
                        (first | rw [c57b0] | (simp only [i64_w, i32_w]; rw [c57b0]) | skip)
                        have H' := Aside0.mk H
                        clear H
                        obtain ⟨Ao58, co58, eo58⟩ := Kd.R_slice HO646.out
                        subst eo58
                        have hcz59_0 : w56.cell? ⟨gb622, 0, none⟩ = some (.int .i64 t617) := (blk_cell BK622.out 0).trans rfl
                        have hcz59_1 : w56.cell? ⟨gb622, 1, none⟩ = some (.int .i64 t618) := (blk_cell BK622.out 1).trans rfl
                        have hcz59_2 : w56.cell? ⟨gb622, 2, none⟩ = some (.slice Ao13 t619.length co13) := (blk_cell BK622.out 2).trans rfl
                        have hfz59_0 := blk_frozen BK622.out 0
                        have hfz59_1 := blk_frozen BK622.out 1
                        have hfz59_2 := blk_frozen BK622.out 2
                        go_wp2
                        go_meet
                        case rel => exact ⟨_, (((t644.length : Int) != t618)), (by first | rfl | (simp; done) | (simp [*]; done)), H', ⟨by have := HJ8.out; have := HJ23.out; have := HK3.out; first | omega | exact Nat.le_refl _⟩, ⟨by (with_reducible repeat (first | apply Kd.R_alloc | apply Kd.R_drewN | apply Kd.R_drew)); exact Kd.R_mono HO_15.out (fun _ hk => hk.2)⟩, ⟨by (with_reducible repeat (first | apply Kd.R_alloc | apply Kd.R_drewN | apply Kd.R_drew)); exact Kd.R_mono HO646.out (fun _ hk => hk.2)⟩, ⟨by (with_reducible repeat (first | apply Kd.S_alloc | apply Kd.S_drewN | apply Kd.S_drew)); exact Kd.S_mono HO_623002.out (fun _ hk => ⟨hk.1.2, hk.2⟩)⟩, ⟨by (with_reducible repeat (first | refine blk_drewN ?_ _ | refine blk_drew ?_ | refine blk_alloc ?_ _)); exact BK622.out⟩, ⟨by repeat (first | (with_reducible first | exact HB.out | apply below_alloc | apply pw_below_drewN | apply below_drew1 | refine below_set ?_ GE622.out) | exact HB.out)⟩⟩
                      · rw [if_neg c57] at H
                        have c57b0 : (t647 == 0) = false := beq_eq_false_iff_ne.mpr c57
                        have c57b1 : (t647 != 0) = true := bne_iff_ne.mpr c57
                        (first | rw [c57b0] | (simp only [i64_w, i32_w]; rw [c57b0]) | skip)
                        have H' := Aside0.mk H
                        clear H
                        go_wp2
                        go_meet
                        case rel => exact ⟨_, (true), (by first | rfl | (simp; done) | (simp [*]; done)), H', ⟨by have := HJ8.out; have := HJ23.out; have := HK3.out; first | omega | exact Nat.le_refl _⟩, ⟨by (with_reducible repeat (first | apply Kd.R_alloc | apply Kd.R_drewN | apply Kd.R_drew)); exact Kd.R_mono HO_15.out (fun _ hk => hk.2)⟩, ⟨by (with_reducible repeat (first | apply Kd.R_alloc | apply Kd.R_drewN | apply Kd.R_drew)); exact Kd.R_mono HO646.out (fun _ hk => hk.2)⟩, ⟨by (with_reducible repeat (first | apply Kd.S_alloc | apply Kd.S_drewN | apply Kd.S_drew)); exact Kd.S_mono HO_623002.out (fun _ hk => ⟨hk.1.2, hk.2⟩)⟩, ⟨by (with_reducible repeat (first | refine blk_drewN ?_ _ | refine blk_drew ?_ | refine blk_alloc ?_ _)); exact BK622.out⟩, ⟨by repeat (first | (with_reducible first | exact HB.out | apply below_alloc | apply pw_below_drewN | apply below_drew1 | refine below_set ?_ GE622.out) | exact HB.out)⟩⟩
                    case rest =>
                      clear HC53
                      try clear c1
                      try clear c2
                      try clear p2
                      try clear c3
                      try clear c4
                      try clear c5
                      try clear c6
                      try clear p6
                      try clear q6
                      try clear hx6
                      try clear c10
                      try clear c20
                      try clear c20b0
                      try clear c20b1
                      try clear c21
                      try clear c21b0
                      try clear c21b1
                      try clear c21b2
                      try clear c22
                      try clear c22b0
                      try clear c22b1
                      try clear c23
                      try clear c25
                      try clear c26
                      try clear c26b0
                      try clear c26b1
                      try clear c26b2
                      try clear c27
                      try clear c28
                      try clear c28b0
                      try clear c30
                      try clear c30b0
                      try clear c31
                      try clear c31b0
                      try clear c32
                      try clear c32b0
                      try clear c33
                      try clear c33b0
                      try clear c34
                      try clear c34b0
                      try clear c35
                      try clear c35b0
                      try clear c36
                      try clear c36b0
                      try clear c36b1
                      try clear c37
                      try clear c38
                      try clear c38b0
                      try clear c39
                      try clear c39b0
                      try clear c40
                      try clear c40b0
                      try clear c40b1
                      try clear c45
                      try clear c45b0
                      try clear c46
                      try clear c46b0
                      try clear c47
                      try clear c47b0
                      try clear c49
                      try clear c57
                      try clear c57b0
                      try clear c57b1
                      try clear hcz12_0
                      try clear hcz12_1
                      try clear hcz12_2
                      try clear hcz15_0
                      try clear hcz15_1
                      try clear hcz15_2
                      try clear hcz18_0
                      try clear hcz18_1
                      try clear hcz18_2
                      try clear hcz29_0
                      try clear hcz29_1
                      try clear hcz29_2
                      try clear hcz41_0
                      try clear hcz41_1
                      try clear hcz41_2
                      try clear hcz54_0
                      try clear hcz54_1
                      try clear hcz54_2
                      try clear hcz59_0
                      try clear hcz59_1
                      try clear hcz59_2
                      try clear hfz12_0
                      try clear hfz12_1
                      try clear hfz12_2
                      try clear hfz15_0
                      try clear hfz15_1
                      try clear hfz15_2
                      try clear hfz18_0
                      try clear hfz18_1
                      try clear hfz18_2
                      try clear hfz29_0
                      try clear hfz29_1
                      try clear hfz29_2
                      try clear hfz41_0
                      try clear hfz41_1
                      try clear hfz41_2
                      try clear hfz54_0
                      try clear hfz54_1
                      try clear hfz54_2
                      try clear hfz59_0
                      try clear hfz59_1
                      try clear hfz59_2
                      try clear hx632_0
                      try clear hx633_0
                      try clear hx634_0
                      try clear hx635_0
                      try clear hx639_0
                      try clear p2
                      try clear p6
                      try clear p632
                      try clear p633
                      try clear p634
                      try clear p635
                      try clear p639
                      try clear q6
                      try clear q632
                      try clear q633
                      try clear q634
                      try clear q635
                      try clear q639
                      obtain ⟨kq, x134_52, rfl, HA, HJ52, HO_15, HO_17, HO_623002, BK622, HB⟩ := hcut
                      cases kq with
                      | zero => exact absurd HA.out (by simp [laws_FnCombination.j5])
                      | succ kj52 =>
                        have H := HA.out
                        clear HA
                        simp only [laws_FnCombination.j5] at H
                        by_cases c60 : x134_52 = true
                        · subst c60
                          have H1 : (some false) = some r := by rw [if_pos rfl] at H; exact H
                          clear H
                          have H := H1
                          clear H1
                          obtain rfl := Option.some.inj H
                          go_wp2
                          go_ret
                          exact ⟨by first | rfl | (simp [errW_none, errW_some] <;> rfl) | (simp [*, errW_none, errW_some] <;> rfl), by repeat (first | (with_reducible first | exact HB.out | apply below_alloc | apply pw_below_drewN | apply below_drew1 | refine below_set ?_ GE622.out) | exact HB.out)⟩
                        · replace c60 := Bool.eq_false_iff.mpr c60
                          subst c60
                          have H1 : (laws_FnCombination.l3 kj52 (t619.length : Int) x15_3 t644 0 t617 t618 t619) = some r := by rw [if_neg (show ¬ (false = true) by decide)] at H; exact H
                          clear H
                          have H := H1
                          clear H1
                          have H' := Aside0.mk H
                          clear H
                          go_wp2
                          go_loopg [19] kj52 (fun kq v19 w' => ∃ (x19_5 : Int), v19 = .int .i64 x19_5 ∧ Aside0 (laws_FnCombination.l3 kq (t619.length : Int) x15_3 t644 x19_5 t617 t618 t619 = some r) ∧ Aside0 (kq ≤ kj52) ∧ Aside0 (Kd.R (Kd.int .i64) 2 w' w.heap.size (fun k_ => some k_ ≠ (v645 : Value).ownBlock) (.slice Ao55 x15_3.length co55) x15_3) ∧ Aside0 (Kd.R (Kd.int .i64) 2 w' w.heap.size (fun k_ => some k_ ≠ ((.slice Ao55 x15_3.length co55) : Value).ownBlock) v645 t644) ∧ Aside0 (Kd.S (Kd.slice 2 (Kd.int .i64)) 35 w' w.heap.size (fun k_ => some k_ ≠ ((.slice Ao55 x15_3.length co55) : Value).ownBlock ∧ some k_ ≠ (v645 : Value).ownBlock) (.slice Ao13 t619.length co13) t619) ∧ Aside0 (w'.heap[gb622]? = some (.cells #[.int .i64 t617, .int .i64 t618, (.slice Ao13 t619.length co13)] 26 (0, 0))) ∧ Aside0 (Below w.heap.size w w'))
                          case atStart => exact ⟨(0), (by first | rfl | (simp; done) | (simp [*]; done)), H', ⟨Nat.le_refl _⟩, ⟨by (with_reducible repeat (first | apply Kd.R_alloc | apply Kd.R_drewN | apply Kd.R_drew)); exact HO_15.out⟩, ⟨by (with_reducible repeat (first | apply Kd.R_alloc | apply Kd.R_drewN | apply Kd.R_drew)); exact HO_17.out⟩, ⟨by (with_reducible repeat (first | apply Kd.S_alloc | apply Kd.S_drewN | apply Kd.S_drew)); exact HO_623002.out⟩, ⟨by (with_reducible repeat (first | refine blk_drewN ?_ _ | refine blk_drew ?_ | refine blk_alloc ?_ _)); exact BK622.out⟩, ⟨by repeat (first | (with_reducible first | exact HB.out | apply below_alloc | apply pw_below_drewN | apply below_drew1 | refine below_set ?_ GE622.out) | exact HB.out)⟩⟩
                          case round =>
                            clear H'
                            try clear c1
                            try clear c2
                            try clear p2
                            try clear c3
                            try clear c4
                            try clear c5
                            try clear c6
                            try clear p6
                            try clear q6
                            try clear hx6
                            try clear c10
                            try clear c20
                            try clear c20b0
                            try clear c20b1
                            try clear c21
                            try clear c21b0
                            try clear c21b1
                            try clear c21b2
                            try clear c22
                            try clear c22b0
                            try clear c22b1
                            try clear c23
                            try clear c25
                            try clear c26
                            try clear c26b0
                            try clear c26b1
                            try clear c26b2
                            try clear c27
                            try clear c28
                            try clear c28b0
                            try clear c30
                            try clear c30b0
                            try clear c31
                            try clear c31b0
                            try clear c32
                            try clear c32b0
                            try clear c33
                            try clear c33b0
                            try clear c34
                            try clear c34b0
                            try clear c35
                            try clear c35b0
                            try clear c36
                            try clear c36b0
                            try clear c36b1
                            try clear c37
                            try clear c38
                            try clear c38b0
                            try clear c39
                            try clear c39b0
                            try clear c40
                            try clear c40b0
                            try clear c40b1
                            try clear c45
                            try clear c45b0
                            try clear c46
                            try clear c46b0
                            try clear c47
                            try clear c47b0
                            try clear c49
                            try clear c57
                            try clear c57b0
                            try clear c57b1
                            try clear c60
                            try clear hcz12_0
                            try clear hcz12_1
                            try clear hcz12_2
                            try clear hcz15_0
                            try clear hcz15_1
                            try clear hcz15_2
                            try clear hcz18_0
                            try clear hcz18_1
                            try clear hcz18_2
                            try clear hcz29_0
                            try clear hcz29_1
                            try clear hcz29_2
                            try clear hcz41_0
                            try clear hcz41_1
                            try clear hcz41_2
                            try clear hcz54_0
                            try clear hcz54_1
                            try clear hcz54_2
                            try clear hcz59_0
                            try clear hcz59_1
                            try clear hcz59_2
                            try clear hfz12_0
                            try clear hfz12_1
                            try clear hfz12_2
                            try clear hfz15_0
                            try clear hfz15_1
                            try clear hfz15_2
                            try clear hfz18_0
                            try clear hfz18_1
                            try clear hfz18_2
                            try clear hfz29_0
                            try clear hfz29_1
                            try clear hfz29_2
                            try clear hfz41_0
                            try clear hfz41_1
                            try clear hfz41_2
                            try clear hfz54_0
                            try clear hfz54_1
                            try clear hfz54_2
                            try clear hfz59_0
                            try clear hfz59_1
                            try clear hfz59_2
                            try clear hx632_0
                            try clear hx633_0
                            try clear hx634_0
                            try clear hx635_0
                            try clear hx639_0
                            try clear p2
                            try clear p6
                            try clear p632
                            try clear p633
                            try clear p634
                            try clear p635
                            try clear p639
                            try clear q6
                            try clear q632
                            try clear q633
                            try clear q634
                            try clear q635
                            try clear q639
                            obtain ⟨x19_5, rfl, HA, HK5, HO_15, HO_17, HO_623002, BK622, HB⟩ := hrel
                            cases gk with
                            | zero => exact absurd HA.out (by simp [laws_FnCombination.l3])
                            | succ k5 =>
                              have H := HA.out
                              clear HA
                              simp only [laws_FnCombination.l3] at H
                              by_cases c61 : x19_5 < (t619.length : Int)
                              · rw [if_pos c61] at H
                                have c61b0 : decide (x19_5 < (t619.length : Int)) = true := decide_eq_true c61
                                clear c61
                                by_cases c62 : 0 ≤ x19_5
                                · rw [if_pos c62] at H
                                  have c62b0 : decide (0 ≤ x19_5) = true := decide_eq_true c62
                                  clear c62
                                  by_cases c63 : x19_5 < (t619.length : Int)
                                  · rw [if_pos c63] at H
                                    have c63b0 : decide (x19_5 < (t619.length : Int)) = true := decide_eq_true c63
                                    clear c63
                                    replace H := Option.bind_eq_some_iff.mp H
                                    obtain ⟨t649, A640, H⟩ := H
                                    replace H : (if x19_5 < (x15_3.length : Int) then (if t649 = (rd x15_3 x19_5) then (laws_FnCombination.l3 k5 (t619.length : Int) x15_3 t644 (wrap64 (x19_5 + 1)) t617 t618 t619) else (some false)) else (none)) = some r := H
                                    have A64 := Aside0.mk A640
                                    clear A640
                                    by_cases c65 : x19_5 < (x15_3.length : Int)
                                    · rw [if_pos c65] at H
                                      have c65b0 : decide (x19_5 < (x15_3.length : Int)) = true := decide_eq_true c65
                                      clear c65
                                      by_cases c66 : t649 = (rd x15_3 x19_5)
                                      · rw [if_pos c66] at H
                                        have c66b0 : (t649 == (rd x15_3 x19_5)) = true := beq_iff_eq.mpr c66
                                        have c66b1 : (t649 != (rd x15_3 x19_5)) = false := bne_eq_false_iff_eq.mpr c66
                                        clear c66
                                        have H' := Aside0.mk H
                                        clear H
                                        try go_wp2
                                        have n0_ := Aside0.mk (Kd.R_drew HO_15.out)
                                        have n1_ := Aside0.mk (Kd.R_drew HO_17.out)
                                        have n2_ := Aside0.mk (Kd.S_drew HO_623002.out)
                                        have n3_ := Aside0.mk (blk_drew BK622.out)
                                        have n4_ := Aside0.mk (below_drew1 HB.out)
                                        clear HO_15
                                        clear HO_17
                                        clear HO_623002
                                        clear BK622
                                        clear HB
                                        have HO_15 := n0_
                                        have HO_17 := n1_
                                        have HO_623002 := n2_
                                        have BK622 := n3_
                                        have HB := n4_
                                        clear n0_ n1_ n2_ n3_ n4_
                                        have p648 : 0 ≤ (x19_5 : Int) := of_decide_eq_true (by first | (with_reducible assumption) | assumption)
                                        have q648 : x19_5 < (t619.length : Int) := of_decide_eq_true (by first | (with_reducible assumption) | assumption)
                                        obtain ⟨ad648, A648_0, c648_0, e648, hx648_0, hl648_0, hi648_0⟩ := at_L1 (Kd.S_reads' HO_623002.out).2.2 x19_5 p648 q648
                                        cases e648
                                        obtain ⟨ce648, hce648, hMe648, hcc648⟩ := Kd.S_get HO_623002.out [] x19_5 p648 (by first | exact q648 | exact of_decide_eq_true (by first | (with_reducible assumption) | assumption) | (have e_ := (Kd.S_reads' HO_623002.out).1; omega))
                                        obtain ⟨ve648_0, rfl, ge648_0⟩ := hMe648
                                        have hv648_0 := hcc648 0 _ rfl
                                        rw [Nat.add_zero, show ((Kd.slice 2 (Kd.int .i64))).sz = 1 from rfl, Nat.mul_one] at hv648_0
                                        replace hv648_0 := Option.some.inj (hv648_0.symm.trans hx648_0)
                                        rw [hv648_0] at ge648_0
                                        have HL648_0 := Aside0.mk (show Kd.R (Kd.int .i64) 2 _ _ _ _ (rd_L1 t619 x19_5) from ge648_0)
                                        clear hv648_0 ge648_0
                                        clear hcc648 hce648
                                        have HR648_0 := Aside0.mk hi648_0
                                        have HC648_0 := Aside0.mk hl648_0
                                        clear hi648_0 hl648_0
                                        replace p648 := eq_true p648
                                        replace q648 := eq_true q648
                                        have p650 : 0 ≤ (x19_5 : Int) := of_decide_eq_true (by first | (with_reducible assumption) | assumption)
                                        have q650 : x19_5 < (x15_3.length : Int) := of_decide_eq_true (by first | (with_reducible assumption) | assumption)
                                        obtain ⟨ad650, e650, hx650_0⟩ := Kd.at_int (Kd.R_reads' HO_15.out).2.2 x19_5 p650 q650
                                        cases e650
                                        replace p650 := eq_true p650
                                        replace q650 := eq_true q650
                                        obtain ⟨Ao68, co68, eo68⟩ := Kd.R_slice HO_17.out
                                        (first | subst eo68 | (injection eo68 with f1_ f2_ f3_; have f4_ := f1_.symm; have f5_ := f3_.symm; clear f1_ f2_ f3_; subst f4_; subst f5_))
                                        refine start_ (n := 14) (S := fun w' => w'.cell? ⟨gb622, 0, none⟩ = some (.int .i64 t617) ∧ w'.cell? ⟨gb622, 1, none⟩ = some (.int .i64 t618) ∧ w'.cell? ⟨gb622, 2, none⟩ = some (.slice (some ad648) t619.length co13) ∧ w'.cell? (ad648.add (x19_5).toNat) = some (.slice A648_0 (rd_L1 t619 x19_5).length c648_0) ∧ w'.cell? (ad650.add (x19_5).toNat) = some (.int .i64 (rd x15_3 x19_5))) (ds := []) #[false, false, false, false, false, false, false, false, false, false, false, false, false, false] (by kernel_rfl) rfl rfl ⟨(blk_cell BK622.out 0).trans rfl, (blk_cell BK622.out 1).trans rfl, (blk_cell BK622.out 2).trans rfl, hx648_0, hx650_0⟩ (fun hHeld => ?_); refine with_tabW laws_FnCombination.tab34 laws_FnCombination.bits34 (fun HT_ HW_ => ?_)
                                        generalize wr.drew = w67 at HO_15 HO_17 HO_623002 BK622 HB HL648_0 HR648_0 hx648_0 hx650_0 hHeld ⊢
                                        refine pure_ (i := 0) (N := some 140) (v := ?_) (a' := ?_) #[true, false, false, false, false, false, false, false, false, false, false, false, false, false] rfl rfl (any_of HT_.out (by kernel_rfl)) (fun _ _ _ h => h) (Or.inl ⟨by rfl, ?_⟩) ?_ ?_
                                        rotate_left
                                        · intro w'
                                          first | (go_simp; with_reducible rfl) | (simp [go_sem, Instr.field, asAgg] <;> with_reducible rfl)
                                        rotate_left
                                        · simp only [Act.put, List.setIfInBounds_toArray, List.set_cons_zero, List.set_cons_succ, i64_w, i32_w]
                                          rfl
                                        refine pure_ (i := 2) (N := some 142) (v := ?_) (a' := ?_) #[true, false, true, false, false, false, false, false, false, false, false, false, false, false] rfl rfl (any_of HT_.out (by kernel_rfl)) (fun _ _ _ h => h) (Or.inl ⟨by rfl, ?_⟩) ?_ ?_
                                        rotate_left
                                        · intro w'
                                          first | (go_simp; with_reducible rfl) | (simp [go_sem, Instr.field, asAgg] <;> with_reducible rfl)
                                        rotate_left
                                        · simp only [Act.put, List.setIfInBounds_toArray, List.set_cons_zero, List.set_cons_succ, i64_w, i32_w]
                                          rfl
                                        refine pure_ (i := 4) (N := some 144) (v := ?_) (a' := ?_) #[true, false, true, false, true, false, false, false, false, false, false, false, false, false] rfl rfl (any_of HT_.out (by kernel_rfl)) (fun _ _ _ h => h) (Or.inl ⟨by rfl, ?_⟩) ?_ ?_
                                        rotate_left
                                        · intro w'
                                          first | (go_simp; with_reducible rfl) | (simp [go_sem, Instr.field, asAgg] <;> with_reducible rfl)
                                        rotate_left
                                        · simp only [Act.put, List.setIfInBounds_toArray, List.set_cons_zero, List.set_cons_succ, i64_w, i32_w]
                                          rfl
                                        refine pure_ (i := 7) (N := some 147) (v := ?_) (a' := ?_) #[true, false, true, false, true, false, false, true, false, false, false, false, false, false] rfl rfl (any_of HT_.out (by kernel_rfl)) (fun _ _ _ h => h) (Or.inl ⟨by rfl, ?_⟩) ?_ ?_
                                        rotate_left
                                        · intro w'
                                          first | (go_simp; with_reducible rfl) | (simp [go_sem, Instr.field, asAgg] <;> with_reducible rfl)
                                        rotate_left
                                        · simp only [Act.put, List.setIfInBounds_toArray, List.set_cons_zero, List.set_cons_succ, i64_w, i32_w]
                                          rfl
                                        refine pure_ (i := 9) (N := some 149) (v := ?_) (a' := ?_) #[true, false, true, false, true, false, false, true, false, true, false, false, false, false] rfl rfl (any_of HT_.out (by kernel_rfl)) (fun _ _ _ h => h) (Or.inl ⟨by rfl, ?_⟩) ?_ ?_
                                        rotate_left
                                        · intro w'
                                          first | (go_simp; with_reducible rfl) | (simp [go_sem, Instr.field, asAgg] <;> with_reducible rfl)
                                        rotate_left
                                        · simp only [Act.put, List.setIfInBounds_toArray, List.set_cons_zero, List.set_cons_succ, i64_w, i32_w]
                                          rfl
                                        refine pure_ (i := 10) (N := some 150) (v := ?_) (a' := ?_) #[true, false, true, false, true, false, false, true, false, true, true, false, false, false] rfl rfl (any_of HT_.out (by kernel_rfl)) (fun _ _ _ h => h) (Or.inl ⟨by rfl, ?_⟩) ?_ ?_
                                        rotate_left
                                        · intro w'
                                          first | (go_simp; with_reducible rfl) | (simp [go_sem, Instr.field, asAgg] <;> with_reducible rfl)
                                        rotate_left
                                        · simp only [Act.put, List.setIfInBounds_toArray, List.set_cons_zero, List.set_cons_succ, i64_w, i32_w]
                                          rfl
                                        refine pure_ (i := 11) (N := some 151) (v := ?_) (a' := ?_) #[true, false, true, false, true, false, false, true, false, true, true, true, false, false] rfl rfl (any_of HT_.out (by kernel_rfl)) (fun _ _ _ h => h) (Or.inl ⟨by rfl, ?_⟩) ?_ ?_
                                        rotate_left
                                        · intro w'
                                          first | (go_simp; with_reducible rfl) | (simp [go_sem, Instr.field, asAgg] <;> with_reducible rfl)
                                        rotate_left
                                        · simp only [Act.put, List.setIfInBounds_toArray, List.set_cons_zero, List.set_cons_succ, i64_w, i32_w]
                                          rfl
                                        refine take_ (i := 1) (N := some 141) (v := ?_) (a' := ?_) #[true, true, true, false, true, false, false, true, false, true, true, true, false, false] rfl rfl (take_ofW HT_.out HW_.out (by kernel_rfl)) (fun _ _ _ h => h) (Or.inl ⟨by rfl, ?_⟩) hHeld ?_ ?_
                                        rotate_left
                                        · rintro w' ⟨s0, s1, s2, s3, s4⟩
                                          go_simp
                                          with_reducible rfl
                                        rotate_left
                                        · simp only [Act.put, List.setIfInBounds_toArray, List.set_cons_zero, List.set_cons_succ, i64_w, i32_w]
                                          rfl
                                        refine take_ (i := 3) (N := some 143) (v := ?_) (a' := ?_) #[true, true, true, true, true, false, false, true, false, true, true, true, false, false] rfl rfl (take_ofW HT_.out HW_.out (by kernel_rfl)) (fun _ _ _ h => h) (Or.inl ⟨by rfl, ?_⟩) hHeld ?_ ?_
                                        rotate_left
                                        · rintro w' ⟨s0, s1, s2, s3, s4⟩
                                          go_simp
                                          with_reducible rfl
                                        rotate_left
                                        · simp only [Act.put, List.setIfInBounds_toArray, List.set_cons_zero, List.set_cons_succ, i64_w, i32_w]
                                          rfl
                                        refine pure_ (i := 5) (N := some 145) (v := ?_) (a' := ?_) #[true, true, true, true, true, true, false, true, false, true, true, true, false, false] rfl rfl (any_of HT_.out (by kernel_rfl)) (fun _ _ _ h => h) (Or.inl ⟨by rfl, ?_⟩) ?_ ?_
                                        rotate_left
                                        · intro w'
                                          first | (go_simp; with_reducible rfl) | (simp [go_sem, Instr.field, asAgg] <;> with_reducible rfl)
                                        rotate_left
                                        · simp only [Act.put, List.setIfInBounds_toArray, List.set_cons_zero, List.set_cons_succ, i64_w, i32_w]
                                          rfl
                                        refine take_ (i := 6) (N := some 146) (v := ?_) (a' := ?_) #[true, true, true, true, true, true, true, true, false, true, true, true, false, false] rfl rfl (take_ofW HT_.out HW_.out (by kernel_rfl)) (fun _ _ _ h => h) (Or.inl ⟨by rfl, ?_⟩) hHeld ?_ ?_
                                        rotate_left
                                        · rintro w' ⟨s0, s1, s2, s3, s4⟩
                                          go_simp
                                          with_reducible rfl
                                        rotate_left
                                        · simp only [Act.put, List.setIfInBounds_toArray, List.set_cons_zero, List.set_cons_succ, i64_w, i32_w]
                                          rfl
                                        refine take_ (i := 12) (N := some 152) (v := ?_) (a' := ?_) #[true, true, true, true, true, true, true, true, false, true, true, true, true, false] rfl rfl (take_ofW HT_.out HW_.out (by kernel_rfl)) (fun _ _ _ h => h) (Or.inl ⟨by rfl, ?_⟩) hHeld ?_ ?_
                                        rotate_left
                                        · rintro w' ⟨s0, s1, s2, s3, s4⟩
                                          go_simp
                                          with_reducible rfl
                                        rotate_left
                                        · simp only [Act.put, List.setIfInBounds_toArray, List.set_cons_zero, List.set_cons_succ, i64_w, i32_w]
                                          rfl
                                        refine one_ (i := 8) (N := some 148) #[true, true, true, true, true, true, true, true, true, true, true, true, true, false] rfl rfl (one_of HT_.out (by kernel_rfl)) (by decide) (fun K hK => ?_)
                                        refine goes_ Try.func38 (by kernel_rfl) rfl #[.int .i64 t617, .slice A648_0 (rd_L1 t619 x19_5).length c648_0, .slice Ao68 t644.length co68] (by rfl) rfl rfl (by (try simp only [List.map_toArray, List.map_cons, List.map_nil]); first | done | rfl | (simp only [List.length_drop, List.length_take]; rfl)) ?_
                                        with_reducible refine (laws_a2Dot.calls k5 t617 _ _ (rd_L1 t619 x19_5) _ _ t644 t649 _ ?side1 ?side2 ?side3 ?side4 A64.out).mono ?_
                                        (case side1 => repeat (first | exact (by repeat (first | (with_reducible exact HR648_0.out) | (with_reducible refine Kd.C_alloc ?_ _) | (with_reducible refine Kd.C_drewN ?_ _) | (with_reducible refine Kd.C_drew ?_) | exact HR648_0.out)) | (with_reducible refine Kd.C_alloc ?_ _) | (with_reducible refine Kd.C_drewN ?_ _) | (with_reducible refine Kd.C_drew ?_)))
                                        (case side2 => exact HC648_0.out)
                                        (case side3 => repeat (first | exact (Kd.R_reads' HO_17.out).2.2 | (with_reducible refine Kd.C_alloc ?_ _) | (with_reducible refine Kd.C_drewN ?_ _) | (with_reducible refine Kd.C_drew ?_)))
                                        (case side4 => exact (Kd.R_reads' HO_17.out).2.1)
                                        rintro e w' ⟨rfl, ⟨nd, rfl⟩⟩
                                        refine ⟨_, rfl, ?_⟩
                                        refine hK.out _ _ ⟨(blk_cell BK622.out 0).trans rfl, (blk_cell BK622.out 1).trans rfl, (blk_cell BK622.out 2).trans rfl, hHeld.2.2.2.1, hHeld.2.2.2.2⟩ (fun hHeld => ?_)
                                        clear hK K
                                        refine norm_ (a' := ?_) ?_ ?_
                                        rotate_left
                                        · show Act.put _ (some 148) _ = _
                                          simp only [Act.put, List.setIfInBounds_toArray, List.set_cons_zero, List.set_cons_succ, i64_w, i32_w]
                                          rfl
                                        refine pure_ (i := 13) (N := some 153) (v := ?_) (a' := ?_) #[true, true, true, true, true, true, true, true, true, true, true, true, true, true] rfl rfl (any_of HT_.out (by kernel_rfl)) (fun _ _ _ h => h) (Or.inl ⟨by rfl, ?_⟩) ?_ ?_
                                        rotate_left
                                        · intro w'
                                          first | (go_simp; with_reducible rfl) | (simp [go_sem, Instr.field, asAgg] <;> with_reducible rfl)
                                        rotate_left
                                        · simp only [Act.put, List.setIfInBounds_toArray, List.set_cons_zero, List.set_cons_succ, i64_w, i32_w]
                                          rfl
                                        refine done_ (done_of HT_.out (by kernel_rfl)) ?_
                                        try go_wp2
                                        go_roundg k5
                                        case measure => have := HJ8.out; have := HJ23.out; have := HK3.out; have := HJ52.out; have := HK5.out; omega
                                        case rel => exact ⟨(wrap64 (x19_5 + 1)), (by first | rfl | (simp; done) | (simp [*]; done)), H', ⟨by have := HJ8.out; have := HJ23.out; have := HK3.out; have := HJ52.out; have := HK5.out; omega⟩, ⟨by (with_reducible repeat (first | apply Kd.R_alloc | apply Kd.R_drewN | apply Kd.R_drew)); exact HO_15.out⟩, ⟨by (with_reducible repeat (first | apply Kd.R_alloc | apply Kd.R_drewN | apply Kd.R_drew)); exact HO_17.out⟩, ⟨by (with_reducible repeat (first | apply Kd.S_alloc | apply Kd.S_drewN | apply Kd.S_drew)); exact HO_623002.out⟩, ⟨by (with_reducible repeat (first | refine blk_drewN ?_ _ | refine blk_drew ?_ | refine blk_alloc ?_ _)); exact BK622.out⟩, ⟨by repeat (first | (with_reducible first | exact HB.out | apply below_alloc | apply pw_below_drewN | apply below_drew1 | refine below_set ?_ GE622.out) | exact HB.out)⟩⟩
                                      · rw [if_neg c66] at H
                                        have c66b0 : (t649 == (rd x15_3 x19_5)) = false := beq_eq_false_iff_ne.mpr c66
                                        have c66b1 : (t649 != (rd x15_3 x19_5)) = true := bne_iff_ne.mpr c66
                                        obtain rfl := Option.some.inj H
                                        try go_wp2
                                        have n0_ := Aside0.mk (Kd.R_drew HO_15.out)
                                        have n1_ := Aside0.mk (Kd.R_drew HO_17.out)
                                        have n2_ := Aside0.mk (Kd.S_drew HO_623002.out)
                                        have n3_ := Aside0.mk (blk_drew BK622.out)
                                        have n4_ := Aside0.mk (below_drew1 HB.out)
                                        clear HO_15
                                        clear HO_17
                                        clear HO_623002
                                        clear BK622
                                        clear HB
                                        have HO_15 := n0_
                                        have HO_17 := n1_
                                        have HO_623002 := n2_
                                        have BK622 := n3_
                                        have HB := n4_
                                        clear n0_ n1_ n2_ n3_ n4_
                                        have p648 : 0 ≤ (x19_5 : Int) := of_decide_eq_true (by first | (with_reducible assumption) | assumption)
                                        have q648 : x19_5 < (t619.length : Int) := of_decide_eq_true (by first | (with_reducible assumption) | assumption)
                                        obtain ⟨ad648, A648_0, c648_0, e648, hx648_0, hl648_0, hi648_0⟩ := at_L1 (Kd.S_reads' HO_623002.out).2.2 x19_5 p648 q648
                                        cases e648
                                        obtain ⟨ce648, hce648, hMe648, hcc648⟩ := Kd.S_get HO_623002.out [] x19_5 p648 (by first | exact q648 | exact of_decide_eq_true (by first | (with_reducible assumption) | assumption) | (have e_ := (Kd.S_reads' HO_623002.out).1; omega))
                                        obtain ⟨ve648_0, rfl, ge648_0⟩ := hMe648
                                        have hv648_0 := hcc648 0 _ rfl
                                        rw [Nat.add_zero, show ((Kd.slice 2 (Kd.int .i64))).sz = 1 from rfl, Nat.mul_one] at hv648_0
                                        replace hv648_0 := Option.some.inj (hv648_0.symm.trans hx648_0)
                                        rw [hv648_0] at ge648_0
                                        have HL648_0 := Aside0.mk (show Kd.R (Kd.int .i64) 2 _ _ _ _ (rd_L1 t619 x19_5) from ge648_0)
                                        clear hv648_0 ge648_0
                                        clear hcc648 hce648
                                        have HR648_0 := Aside0.mk hi648_0
                                        have HC648_0 := Aside0.mk hl648_0
                                        clear hi648_0 hl648_0
                                        replace p648 := eq_true p648
                                        replace q648 := eq_true q648
                                        have p650 : 0 ≤ (x19_5 : Int) := of_decide_eq_true (by first | (with_reducible assumption) | assumption)
                                        have q650 : x19_5 < (x15_3.length : Int) := of_decide_eq_true (by first | (with_reducible assumption) | assumption)
                                        obtain ⟨ad650, e650, hx650_0⟩ := Kd.at_int (Kd.R_reads' HO_15.out).2.2 x19_5 p650 q650
                                        cases e650
                                        replace p650 := eq_true p650
                                        replace q650 := eq_true q650
                                        obtain ⟨Ao70, co70, eo70⟩ := Kd.R_slice HO_17.out
                                        (first | subst eo70 | (injection eo70 with f1_ f2_ f3_; have f4_ := f1_.symm; have f5_ := f3_.symm; clear f1_ f2_ f3_; subst f4_; subst f5_))
                                        refine start_ (n := 14) (S := fun w' => w'.cell? ⟨gb622, 0, none⟩ = some (.int .i64 t617) ∧ w'.cell? ⟨gb622, 1, none⟩ = some (.int .i64 t618) ∧ w'.cell? ⟨gb622, 2, none⟩ = some (.slice (some ad648) t619.length co13) ∧ w'.cell? (ad648.add (x19_5).toNat) = some (.slice A648_0 (rd_L1 t619 x19_5).length c648_0) ∧ w'.cell? (ad650.add (x19_5).toNat) = some (.int .i64 (rd x15_3 x19_5))) (ds := []) #[false, false, false, false, false, false, false, false, false, false, false, false, false, false] (by kernel_rfl) rfl rfl ⟨(blk_cell BK622.out 0).trans rfl, (blk_cell BK622.out 1).trans rfl, (blk_cell BK622.out 2).trans rfl, hx648_0, hx650_0⟩ (fun hHeld => ?_); refine with_tabW laws_FnCombination.tab34 laws_FnCombination.bits34 (fun HT_ HW_ => ?_)
                                        generalize wr.drew = w69 at HO_15 HO_17 HO_623002 BK622 HB HL648_0 HR648_0 hx648_0 hx650_0 hHeld ⊢
                                        refine pure_ (i := 0) (N := some 140) (v := ?_) (a' := ?_) #[true, false, false, false, false, false, false, false, false, false, false, false, false, false] rfl rfl (any_of HT_.out (by kernel_rfl)) (fun _ _ _ h => h) (Or.inl ⟨by rfl, ?_⟩) ?_ ?_
                                        rotate_left
                                        · intro w'
                                          first | (go_simp; with_reducible rfl) | (simp [go_sem, Instr.field, asAgg] <;> with_reducible rfl)
                                        rotate_left
                                        · simp only [Act.put, List.setIfInBounds_toArray, List.set_cons_zero, List.set_cons_succ, i64_w, i32_w]
                                          rfl
                                        refine pure_ (i := 2) (N := some 142) (v := ?_) (a' := ?_) #[true, false, true, false, false, false, false, false, false, false, false, false, false, false] rfl rfl (any_of HT_.out (by kernel_rfl)) (fun _ _ _ h => h) (Or.inl ⟨by rfl, ?_⟩) ?_ ?_
                                        rotate_left
                                        · intro w'
                                          first | (go_simp; with_reducible rfl) | (simp [go_sem, Instr.field, asAgg] <;> with_reducible rfl)
                                        rotate_left
                                        · simp only [Act.put, List.setIfInBounds_toArray, List.set_cons_zero, List.set_cons_succ, i64_w, i32_w]
                                          rfl
                                        refine pure_ (i := 4) (N := some 144) (v := ?_) (a' := ?_) #[true, false, true, false, true, false, false, false, false, false, false, false, false, false] rfl rfl (any_of HT_.out (by kernel_rfl)) (fun _ _ _ h => h) (Or.inl ⟨by rfl, ?_⟩) ?_ ?_
                                        rotate_left
                                        · intro w'
                                          first | (go_simp; with_reducible rfl) | (simp [go_sem, Instr.field, asAgg] <;> with_reducible rfl)
                                        rotate_left
                                        · simp only [Act.put, List.setIfInBounds_toArray, List.set_cons_zero, List.set_cons_succ, i64_w, i32_w]
                                          rfl
                                        refine pure_ (i := 7) (N := some 147) (v := ?_) (a' := ?_) #[true, false, true, false, true, false, false, true, false, false, false, false, false, false] rfl rfl (any_of HT_.out (by kernel_rfl)) (fun _ _ _ h => h) (Or.inl ⟨by rfl, ?_⟩) ?_ ?_
                                        rotate_left
                                        · intro w'
                                          first | (go_simp; with_reducible rfl) | (simp [go_sem, Instr.field, asAgg] <;> with_reducible rfl)
                                        rotate_left
                                        · simp only [Act.put, List.setIfInBounds_toArray, List.set_cons_zero, List.set_cons_succ, i64_w, i32_w]
                                          rfl
                                        refine pure_ (i := 9) (N := some 149) (v := ?_) (a' := ?_) #[true, false, true, false, true, false, false, true, false, true, false, false, false, false] rfl rfl (any_of HT_.out (by kernel_rfl)) (fun _ _ _ h => h) (Or.inl ⟨by rfl, ?_⟩) ?_ ?_
                                        rotate_left
                                        · intro w'
                                          first | (go_simp; with_reducible rfl) | (simp [go_sem, Instr.field, asAgg] <;> with_reducible rfl)
                                        rotate_left
                                        · simp only [Act.put, List.setIfInBounds_toArray, List.set_cons_zero, List.set_cons_succ, i64_w, i32_w]
                                          rfl
                                        refine pure_ (i := 10) (N := some 150) (v := ?_) (a' := ?_) #[true, false, true, false, true, false, false, true, false, true, true, false, false, false] rfl rfl (any_of HT_.out (by kernel_rfl)) (fun _ _ _ h => h) (Or.inl ⟨by rfl, ?_⟩) ?_ ?_
                                        rotate_left
                                        · intro w'
                                          first | (go_simp; with_reducible rfl) | (simp [go_sem, Instr.field, asAgg] <;> with_reducible rfl)
                                        rotate_left
                                        · simp only [Act.put, List.setIfInBounds_toArray, List.set_cons_zero, List.set_cons_succ, i64_w, i32_w]
                                          rfl
                                        refine pure_ (i := 11) (N := some 151) (v := ?_) (a' := ?_) #[true, false, true, false, true, false, false, true, false, true, true, true, false, false] rfl rfl (any_of HT_.out (by kernel_rfl)) (fun _ _ _ h => h) (Or.inl ⟨by rfl, ?_⟩) ?_ ?_
                                        rotate_left
                                        · intro w'
                                          first | (go_simp; with_reducible rfl) | (simp [go_sem, Instr.field, asAgg] <;> with_reducible rfl)
                                        rotate_left
                                        · simp only [Act.put, List.setIfInBounds_toArray, List.set_cons_zero, List.set_cons_succ, i64_w, i32_w]
                                          rfl
                                        refine take_ (i := 1) (N := some 141) (v := ?_) (a' := ?_) #[true, true, true, false, true, false, false, true, false, true, true, true, false, false] rfl rfl (take_ofW HT_.out HW_.out (by kernel_rfl)) (fun _ _ _ h => h) (Or.inl ⟨by rfl, ?_⟩) hHeld ?_ ?_
                                        rotate_left
                                        · rintro w' ⟨s0, s1, s2, s3, s4⟩
                                          go_simp
                                          with_reducible rfl
                                        rotate_left
                                        · simp only [Act.put, List.setIfInBounds_toArray, List.set_cons_zero, List.set_cons_succ, i64_w, i32_w]
                                          rfl
                                        refine take_ (i := 3) (N := some 143) (v := ?_) (a' := ?_) #[true, true, true, true, true, false, false, true, false, true, true, true, false, false] rfl rfl (take_ofW HT_.out HW_.out (by kernel_rfl)) (fun _ _ _ h => h) (Or.inl ⟨by rfl, ?_⟩) hHeld ?_ ?_
                                        rotate_left
                                        · rintro w' ⟨s0, s1, s2, s3, s4⟩
                                          go_simp
                                          with_reducible rfl
                                        rotate_left
                                        · simp only [Act.put, List.setIfInBounds_toArray, List.set_cons_zero, List.set_cons_succ, i64_w, i32_w]
                                          rfl
                                        refine pure_ (i := 5) (N := some 145) (v := ?_) (a' := ?_) #[true, true, true, true, true, true, false, true, false, true, true, true, false, false] rfl rfl (any_of HT_.out (by kernel_rfl)) (fun _ _ _ h => h) (Or.inl ⟨by rfl, ?_⟩) ?_ ?_
                                        rotate_left
                                        · intro w'
                                          first | (go_simp; with_reducible rfl) | (simp [go_sem, Instr.field, asAgg] <;> with_reducible rfl)
                                        rotate_left
                                        · simp only [Act.put, List.setIfInBounds_toArray, List.set_cons_zero, List.set_cons_succ, i64_w, i32_w]
                                          rfl
                                        refine take_ (i := 6) (N := some 146) (v := ?_) (a' := ?_) #[true, true, true, true, true, true, true, true, false, true, true, true, false, false] rfl rfl (take_ofW HT_.out HW_.out (by kernel_rfl)) (fun _ _ _ h => h) (Or.inl ⟨by rfl, ?_⟩) hHeld ?_ ?_
                                        rotate_left
                                        · rintro w' ⟨s0, s1, s2, s3, s4⟩
                                          go_simp
                                          with_reducible rfl
                                        rotate_left
                                        · simp only [Act.put, List.setIfInBounds_toArray, List.set_cons_zero, List.set_cons_succ, i64_w, i32_w]
                                          rfl
                                        refine take_ (i := 12) (N := some 152) (v := ?_) (a' := ?_) #[true, true, true, true, true, true, true, true, false, true, true, true, true, false] rfl rfl (take_ofW HT_.out HW_.out (by kernel_rfl)) (fun _ _ _ h => h) (Or.inl ⟨by rfl, ?_⟩) hHeld ?_ ?_
                                        rotate_left
                                        · rintro w' ⟨s0, s1, s2, s3, s4⟩
                                          go_simp
                                          with_reducible rfl
                                        rotate_left
                                        · simp only [Act.put, List.setIfInBounds_toArray, List.set_cons_zero, List.set_cons_succ, i64_w, i32_w]
                                          rfl
                                        refine one_ (i := 8) (N := some 148) #[true, true, true, true, true, true, true, true, true, true, true, true, true, false] rfl rfl (one_of HT_.out (by kernel_rfl)) (by decide) (fun K hK => ?_)
                                        refine goes_ Try.func38 (by kernel_rfl) rfl #[.int .i64 t617, .slice A648_0 (rd_L1 t619 x19_5).length c648_0, .slice Ao70 t644.length co70] (by rfl) rfl rfl (by (try simp only [List.map_toArray, List.map_cons, List.map_nil]); first | done | rfl | (simp only [List.length_drop, List.length_take]; rfl)) ?_
                                        with_reducible refine (laws_a2Dot.calls k5 t617 _ _ (rd_L1 t619 x19_5) _ _ t644 t649 _ ?side1 ?side2 ?side3 ?side4 A64.out).mono ?_
                                        (case side1 => repeat (first | exact (by repeat (first | (with_reducible exact HR648_0.out) | (with_reducible refine Kd.C_alloc ?_ _) | (with_reducible refine Kd.C_drewN ?_ _) | (with_reducible refine Kd.C_drew ?_) | exact HR648_0.out)) | (with_reducible refine Kd.C_alloc ?_ _) | (with_reducible refine Kd.C_drewN ?_ _) | (with_reducible refine Kd.C_drew ?_)))
                                        (case side2 => exact HC648_0.out)
                                        (case side3 => repeat (first | exact (Kd.R_reads' HO_17.out).2.2 | (with_reducible refine Kd.C_alloc ?_ _) | (with_reducible refine Kd.C_drewN ?_ _) | (with_reducible refine Kd.C_drew ?_)))
                                        (case side4 => exact (Kd.R_reads' HO_17.out).2.1)
                                        rintro e w' ⟨rfl, ⟨nd, rfl⟩⟩
                                        refine ⟨_, rfl, ?_⟩
                                        refine hK.out _ _ ⟨(blk_cell BK622.out 0).trans rfl, (blk_cell BK622.out 1).trans rfl, (blk_cell BK622.out 2).trans rfl, hHeld.2.2.2.1, hHeld.2.2.2.2⟩ (fun hHeld => ?_)
                                        clear hK K
                                        refine norm_ (a' := ?_) ?_ ?_
                                        rotate_left
                                        · show Act.put _ (some 148) _ = _
                                          simp only [Act.put, List.setIfInBounds_toArray, List.set_cons_zero, List.set_cons_succ, i64_w, i32_w]
                                          rfl
                                        refine pure_ (i := 13) (N := some 153) (v := ?_) (a' := ?_) #[true, true, true, true, true, true, true, true, true, true, true, true, true, true] rfl rfl (any_of HT_.out (by kernel_rfl)) (fun _ _ _ h => h) (Or.inl ⟨by rfl, ?_⟩) ?_ ?_
                                        rotate_left
                                        · intro w'
                                          first | (go_simp; with_reducible rfl) | (simp [go_sem, Instr.field, asAgg] <;> with_reducible rfl)
                                        rotate_left
                                        · simp only [Act.put, List.setIfInBounds_toArray, List.set_cons_zero, List.set_cons_succ, i64_w, i32_w]
                                          rfl
                                        refine done_ (done_of HT_.out (by kernel_rfl)) ?_
                                        try go_wp2
                                        go_ret
                                        exact ⟨by first | rfl | (simp [errW_none, errW_some] <;> rfl) | (simp [*, errW_none, errW_some] <;> rfl), by repeat (first | (with_reducible first | exact HB.out | apply below_alloc | apply pw_below_drewN | apply below_drew1 | refine below_set ?_ GE622.out) | exact HB.out)⟩
                                    · rw [if_neg c65] at H
                                      exact absurd H (by simp)
                                  · rw [if_neg c63] at H
                                    exact absurd H (by simp)
                                · rw [if_neg c62] at H
                                  exact absurd H (by simp)
                              · rw [if_neg c61] at H
                                have c61b0 : decide (x19_5 < (t619.length : Int)) = false := decide_eq_false c61
                                clear c61
                                obtain rfl := Option.some.inj H
                                go_wp2
                                go_ret
                                exact ⟨by first | rfl | (simp [errW_none, errW_some] <;> rfl) | (simp [*, errW_none, errW_some] <;> rfl), by repeat (first | (with_reducible first | exact HB.out | apply below_alloc | apply pw_below_drewN | apply below_drew1 | refine below_set ?_ GE622.out) | exact HB.out)⟩

/-- THE ONE PURE STATEMENT of laws_FnCombination: yours. -/
def laws_FnCombination.Pure : Prop := ∀ (l0 : List Int) (l1 : List Int), l0.length ≤ maxLen → l0.length * 1 ≤ 140737488351232 → (∀ x ∈ l0, (Lit.int .u8 x).wf = true) → l1.length ≤ maxLen → l1.length * 1 ≤ 140737488351232 → (∀ x ∈ l1, (Lit.int .u8 x).wf = true) → ∃ k, laws_FnCombination.f k l0 l1 = some true
theorem laws_FnCombination.walk (P : laws_FnCombination.Pure) (a0 : Option Addr) (len0 cap0 : Nat) (z0 : List Int) (a1 : Option Addr) (len1 cap1 : Nat) (z1 : List Int) (w : World) (w0 : (a0 = none ∧ len0 = 0 ∧ cap0 = 0 ∧ z0 = []) ∨ ∃ x, a0 = some x ∧ len0 ≤ cap0 ∧ cap0 ≤ maxLen ∧ z0.length = cap0 ∧ (∀ i, i < z0.length → w.cell? (x.add i) = some (.int .u8 (z0.getD i 0))) ∧ ∀ n ∈ z0, (Lit.int .u8 n).wf = true) (y0 : len0 * 1 ≤ 140737488351232) (w1 : (a1 = none ∧ len1 = 0 ∧ cap1 = 0 ∧ z1 = []) ∨ ∃ x, a1 = some x ∧ len1 ≤ cap1 ∧ cap1 ≤ maxLen ∧ z1.length = cap1 ∧ (∀ i, i < z1.length → w.cell? (x.add i) = some (.int .u8 (z1.getD i 0))) ∧ ∀ n ∈ z1, (Lit.int .u8 n).wf = true) (y1 : len1 * 1 ≤ 140737488351232) :
    Calls Try.prog 10 #[.slice a0 len0 cap0, .slice a1 len1 cap1] w fun e w' => e = .returned (.bool true) ∧ Below w.heap.size w w' := by
  obtain ⟨l0, rfl, hr0, hm0, hw0, hc0⟩ := ReadsInt.ofRowC w0
  obtain ⟨l1, rfl, hr1, hm1, hw1, hc1⟩ := ReadsInt.ofRowC w1
  obtain ⟨k, h⟩ := P l0 l1 hm0 y0 hw0 hm1 y1 hw1
  refine (laws_FnCombination.calls k _ _ l0 _ _ l1 true w (Kd.C_of_reads (d := (0 : Int)) (h1 := fun _ => rfl) hr0) hc0 (Kd.C_of_reads (d := (0 : Int)) (h1 := fun _ => rfl) hr1) hc1 h).mono ?_
  rintro e w' ⟨rfl, hd⟩
  exact ⟨rfl, hd⟩

end Go.Proofs.Ytjpbemomocccaaa.P

namespace Go.Proofs.Ytjpbemomocccaaa.P
open Go.RowKit Go.Proofs.YtjpbemomocccaaaW.PrintWords Go.Proofs.YtjpbemomocccaaaW.PrintLast Go.Proofs.YtjpbemomocccaaaW.PrintMore
attribute [local go_sem] max2_int min2_int max_two min_two max_three min_three max_four min_four
set_option linter.unusedVariables false
set_option linter.unusedSimpArgs false

/-! ### laws_szInt64S: function 81 -/
end Go.Proofs.Ytjpbemomocccaaa.P

namespace Go.Proofs.Ytjpbemomocccaaa.P
open Go.RowKit Go.Proofs.YtjpbemomocccaaaW.PrintWords Go.Proofs.YtjpbemomocccaaaW.PrintLast Go.Proofs.YtjpbemomocccaaaW.PrintMore
attribute [local go_sem] max2_int min2_int max_two min_two max_three min_three max_four min_four
set_option linter.unusedVariables false
set_option linter.unusedSimpArgs false

/-! ### laws_szInt64SS: function 46 -/
end Go.Proofs.Ytjpbemomocccaaa.P

namespace Go.Proofs.Ytjpbemomocccaaa.P
open Go.RowKit Go.Proofs.YtjpbemomocccaaaW.PrintWords Go.Proofs.YtjpbemomocccaaaW.PrintLast Go.Proofs.YtjpbemomocccaaaW.PrintMore
attribute [local go_sem] max2_int min2_int max_two min_two max_three min_three max_four min_four
set_option linter.unusedVariables false
set_option linter.unusedSimpArgs false

/-! ### laws_szMatrix: function 12 -/
end Go.Proofs.Ytjpbemomocccaaa.P

namespace Go.Proofs.Ytjpbemomocccaaa.P
open Go.RowKit Go.Proofs.YtjpbemomocccaaaW.PrintWords Go.Proofs.YtjpbemomocccaaaW.PrintLast Go.Proofs.YtjpbemomocccaaaW.PrintMore
attribute [local go_sem] max2_int min2_int max_two min_two max_three min_three max_four min_four
set_option linter.unusedVariables false
set_option linter.unusedSimpArgs false

/-! ### laws_toInt64S: function 26 -/
end Go.Proofs.Ytjpbemomocccaaa.P

namespace Go.Proofs.Ytjpbemomocccaaa.P
open Go.RowKit Go.Proofs.YtjpbemomocccaaaW.PrintWords Go.Proofs.YtjpbemomocccaaaW.PrintLast Go.Proofs.YtjpbemomocccaaaW.PrintMore
attribute [local go_sem] max2_int min2_int max_two min_two max_three min_three max_four min_four
set_option linter.unusedVariables false
set_option linter.unusedSimpArgs false

/-! ### laws_toInt64SS: function 49 -/
end Go.Proofs.Ytjpbemomocccaaa.P

namespace Go.Proofs.Ytjpbemomocccaaa.P
open Go.RowKit Go.Proofs.YtjpbemomocccaaaW.PrintWords Go.Proofs.YtjpbemomocccaaaW.PrintLast Go.Proofs.YtjpbemomocccaaaW.PrintMore
attribute [local go_sem] max2_int min2_int max_two min_two max_three min_three max_four min_four
set_option linter.unusedVariables false
set_option linter.unusedSimpArgs false

/-! ### laws_toMatrix: function 14 -/
end Go.Proofs.Ytjpbemomocccaaa.P

namespace Go.Proofs.Ytjpbemomocccaaa.P
open Go.RowKit Go.Proofs.YtjpbemomocccaaaW.PrintWords Go.Proofs.YtjpbemomocccaaaW.PrintLast Go.Proofs.YtjpbemomocccaaaW.PrintMore
attribute [local go_sem] max2_int min2_int max_two min_two max_three min_three max_four min_four
set_option linter.unusedVariables false
set_option linter.unusedSimpArgs false

/-! ### laws_eqInt64S: function 28 -/
end Go.Proofs.Ytjpbemomocccaaa.P

namespace Go.Proofs.Ytjpbemomocccaaa.P
open Go.RowKit Go.Proofs.YtjpbemomocccaaaW.PrintWords Go.Proofs.YtjpbemomocccaaaW.PrintLast Go.Proofs.YtjpbemomocccaaaW.PrintMore
attribute [local go_sem] max2_int min2_int max_two min_two max_three min_three max_four min_four
set_option linter.unusedVariables false
set_option linter.unusedSimpArgs false

/-! ### laws_eqInt64SS: function 52 -/
end Go.Proofs.Ytjpbemomocccaaa.P

namespace Go.Proofs.Ytjpbemomocccaaa.P
open Go.RowKit Go.Proofs.YtjpbemomocccaaaW.PrintWords Go.Proofs.YtjpbemomocccaaaW.PrintLast Go.Proofs.YtjpbemomocccaaaW.PrintMore
attribute [local go_sem] max2_int min2_int max_two min_two max_three min_three max_four min_four
set_option linter.unusedVariables false
set_option linter.unusedSimpArgs false

/-! ### laws_eqMatrix: function 16 -/
end Go.Proofs.Ytjpbemomocccaaa.P

namespace Go.Proofs.Ytjpbemomocccaaa.P
open Go.RowKit Go.Proofs.YtjpbemomocccaaaW.PrintWords Go.Proofs.YtjpbemomocccaaaW.PrintLast Go.Proofs.YtjpbemomocccaaaW.PrintMore
attribute [local go_sem] max2_int min2_int max_two min_two max_three min_three max_four min_four
set_option linter.unusedVariables false
set_option linter.unusedSimpArgs false

def before (l : List Int) (i : Nat) : Option Int := if i = 0 then none else l[i - 1]?
end Go.Proofs.Ytjpbemomocccaaa.P

namespace Go.Proofs.Ytjpbemomocccaaa.P
open Go.RowKit Go.Proofs.YtjpbemomocccaaaW.PrintWords Go.Proofs.YtjpbemomocccaaaW.PrintLast Go.Proofs.YtjpbemomocccaaaW.PrintMore
attribute [local go_sem] max2_int min2_int max_two min_two max_three min_three max_four min_four
set_option linter.unusedVariables false
set_option linter.unusedSimpArgs false

theorem rdL_nat (xs : List (List Int)) (i : Nat) (h : i < xs.length) : rd_L1 xs (i : Int) = xs[i] := by
  simp [rd_L1, h]
end Go.Proofs.Ytjpbemomocccaaa.P

namespace Go.Proofs.Ytjpbemomocccaaa.P
open Go.RowKit Go.Proofs.YtjpbemomocccaaaW.PrintWords Go.Proofs.YtjpbemomocccaaaW.PrintLast Go.Proofs.YtjpbemomocccaaaW.PrintMore
attribute [local go_sem] max2_int min2_int max_two min_two max_three min_three max_four min_four
set_option linter.unusedVariables false
set_option linter.unusedSimpArgs false

def grp (gs : List (List Int)) (i : Nat) : List Int := gs.getD i []
theorem rdL_grp (gs : List (List Int)) (i : Nat) (h : i < gs.length) : rd_L1 gs (i : Int) = grp gs i := by
  rw [rdL_nat gs i h]; simp [grp, h]
theorem grp_len {gs : List (List Int)} {m : Nat} (hr : ∀ r ∈ gs, r.length ≤ m) (i : Nat) : (grp gs i).length ≤ m := by
  unfold grp
  by_cases h : i < gs.length
  · rw [List.getD_eq_getElem?_getD, List.getElem?_eq_getElem h]; exact hr _ (List.getElem_mem h)
  · rw [List.getD_eq_getElem?_getD, List.getElem?_eq_none (by omega)]; exact Nat.zero_le _

end Go.Proofs.Ytjpbemomocccaaa.P

namespace Go.Proofs.Ytjpbemomocccaaa.P
open Go.RowKit Go.Proofs.YtjpbemomocccaaaW.PrintWords Go.Proofs.YtjpbemomocccaaaW.PrintLast Go.Proofs.YtjpbemomocccaaaW.PrintMore
attribute [local go_sem] max2_int min2_int max_two min_two max_three min_three max_four min_four
set_option linter.unusedVariables false
set_option linter.unusedSimpArgs false

/-! ### spec_l00Own: function 62 -/
end Go.Proofs.Ytjpbemomocccaaa.P

namespace Go.Proofs.Ytjpbemomocccaaa.P
open Go.RowKit Go.Proofs.YtjpbemomocccaaaW.PrintWords Go.Proofs.YtjpbemomocccaaaW.PrintLast Go.Proofs.YtjpbemomocccaaaW.PrintMore
attribute [local go_sem] max2_int min2_int max_two min_two max_three min_three max_four min_four
set_option linter.unusedVariables false
set_option linter.unusedSimpArgs false

/-! ### spec_l03Copy: function 65 -/
end Go.Proofs.Ytjpbemomocccaaa.P

namespace Go.Proofs.Ytjpbemomocccaaa.P
open Go.RowKit Go.Proofs.YtjpbemomocccaaaW.PrintWords Go.Proofs.YtjpbemomocccaaaW.PrintLast Go.Proofs.YtjpbemomocccaaaW.PrintMore
attribute [local go_sem] max2_int min2_int max_two min_two max_three min_three max_four min_four
set_option linter.unusedVariables false
set_option linter.unusedSimpArgs false

/-! ### spec_l03Add: function 67 -/
end Go.Proofs.Ytjpbemomocccaaa.P

namespace Go.Proofs.Ytjpbemomocccaaa.P
open Go.RowKit Go.Proofs.YtjpbemomocccaaaW.PrintWords Go.Proofs.YtjpbemomocccaaaW.PrintLast Go.Proofs.YtjpbemomocccaaaW.PrintMore
attribute [local go_sem] max2_int min2_int max_two min_two max_three min_three max_four min_four
set_option linter.unusedVariables false
set_option linter.unusedSimpArgs false

/-! ### spec_l03Times: function 90 -/
end Go.Proofs.Ytjpbemomocccaaa.P

namespace Go.Proofs.Ytjpbemomocccaaa.P
open Go.RowKit Go.Proofs.YtjpbemomocccaaaW.PrintWords Go.Proofs.YtjpbemomocccaaaW.PrintLast Go.Proofs.YtjpbemomocccaaaW.PrintMore
attribute [local go_sem] max2_int min2_int max_two min_two max_three min_three max_four min_four
set_option linter.unusedVariables false
set_option linter.unusedSimpArgs false

/-! ### spec_l03Echelon: function 48 (by hand) -/
end Go.Proofs.Ytjpbemomocccaaa.P

namespace Go.Proofs.Ytjpbemomocccaaa.P
open Go.RowKit Go.Proofs.YtjpbemomocccaaaW.PrintWords Go.Proofs.YtjpbemomocccaaaW.PrintLast Go.Proofs.YtjpbemomocccaaaW.PrintMore
attribute [local go_sem] max2_int min2_int max_two min_two max_three min_three max_four min_four
set_option linter.unusedVariables false
set_option linter.unusedSimpArgs false

theorem rd_cast (xs : List Int) (i : Nat) : rd xs (i : Int) = xs.getD i 0 := by simp [rd]
theorem rdL_cast (gs : List (List Int)) (i : Nat) : rd_L1 gs (i : Int) = grp gs i := by simp [rd_L1, grp]
theorem getD_set {α : Type} (l : List α) (i j : Nat) (v d : α) (hi : i < l.length) : (l.set i v).getD j d = if j = i then v else l.getD j d := by
  rw [List.getD_eq_getElem?_getD, List.getD_eq_getElem?_getD, List.getElem?_set]
  by_cases h : j = i
  · subst h; rw [if_pos rfl, if_pos rfl, if_pos hi]; rfl
  · rw [if_neg (Ne.symm h), if_neg h]
theorem getD_map {α : Type} (n : Nat) (f : Nat → α) (j : Nat) (d : α) (hj : j < n) : ((List.range n).map f).getD j d = f j := by
  rw [List.getD_eq_getElem?_getD, List.getElem?_map, List.getElem?_range hj]; rfl
theorem list_of_getD {α : Type} (l : List α) (d : α) : (List.range l.length).map (fun j => l.getD j d) = l := by
  refine List.ext_getElem (by simp) fun i h1 h2 => ?_
  have : i < l.length := h2
  simp [List.getD_eq_getElem?_getD, this]
theorem list_eq_getD {α : Type} (d : α) {a b : List α} (hl : a.length = b.length) (h : ∀ i, i < a.length → a.getD i d = b.getD i d) : a = b := by
  refine List.ext_getElem hl fun i h1 h2 => ?_
  have := h i h1
  rwa [List.getD_eq_getElem?_getD, List.getD_eq_getElem?_getD, List.getElem?_eq_getElem h1, List.getElem?_eq_getElem h2] at this
/-- A loop that sets one place of a list after another. -/
theorem setloop_ev {α : Type} (d : α) {l : Nat → Int → List α → Option (List α)} (ys : List α) (f : Nat → α → α)
    (hgo : ∀ (i : Nat) (xs : List α), i < ys.length → xs.length = ys.length → (∀ j, j < ys.length → xs.getD j d = if j < i then f j (ys.getD j d) else ys.getD j d) → ∀ r, Ev (fun k => l k ((i + 1 : Nat) : Int) (xs.set i (f i (ys.getD i d)))) r → Ev (fun k => l k (i : Int) xs) r)
    (hend : ∀ xs, xs.length = ys.length → Ev (fun k => l k (ys.length : Int) xs) xs) : Ev (fun k => l k 0 ys) ((List.range ys.length).map fun j => f j (ys.getD j d)) := by
  have key : ∀ m i : Nat, i + m = ys.length → ∀ xs : List α, xs.length = ys.length → (∀ j, j < ys.length → xs.getD j d = if j < i then f j (ys.getD j d) else ys.getD j d) → Ev (fun k => l k (i : Int) xs) ((List.range ys.length).map fun j => f j (ys.getD j d)) := by
    intro m
    induction m with
    | zero =>
      intro i hi xs hx hj
      obtain rfl : i = ys.length := by omega
      have e : xs = (List.range ys.length).map fun j => f j (ys.getD j d) := by
        refine list_eq_getD d (by simp [hx]) fun j hjx => ?_
        rw [getD_map _ _ _ _ (by omega), hj j (by omega), if_pos (by omega)]
      have := hend xs hx
      rw [← e]
      exact this
    | succ m ih =>
      intro i hi xs hx hj
      refine hgo i xs (by omega) hx hj _ (ih (i + 1) (by omega) _ (by rw [List.length_set]; exact hx) fun j hjl => ?_)
      rw [getD_set _ _ _ _ _ (by omega)]
      by_cases h1 : j = i
      · subst h1; rw [if_pos rfl, if_pos (by omega)]
      · rw [if_neg h1, hj j hjl]
        by_cases h2 : j < i
        · rw [if_pos h2, if_pos (by omega)]
        · rw [if_neg h2, if_neg (by omega)]
  exact key ys.length 0 (by omega) ys rfl fun j _ => by rw [if_neg (by omega)]
/-- A list of C elements modulo p. -/
def RowP (p : Int) (C : Nat) (r : List Int) : Prop := r.length = C ∧ ∀ j, 0 ≤ r.getD j 0 ∧ r.getD j 0 ≤ p - 1
def MatP (p : Int) (C : Nat) (rows : List (List Int)) : Prop := ∀ i, i < rows.length → RowP p C (grp rows i)
theorem mod_range {p : Int} (hp : 2 ≤ p) (x : Int) : 0 ≤ x % p ∧ x % p ≤ p - 1 := ⟨Int.emod_nonneg _ (by omega), by have := Int.emod_lt_of_pos x (b := p) (by omega); omega⟩
theorem RowP_map {p : Int} (hp : 2 ≤ p) (C : Nat) (f : Nat → Int) (hf : ∀ j, j < C → 0 ≤ f j ∧ f j ≤ p - 1) : RowP p C ((List.range C).map f) := by
  refine ⟨by simp, fun j => ?_⟩
  by_cases h : j < C
  · rw [getD_map _ _ _ _ h]; exact hf j h
  · rw [List.getD_eq_getElem?_getD, List.getElem?_eq_none (by simp; omega)]
    show 0 ≤ (0 : Int) ∧ (0 : Int) ≤ p - 1
    omega
def timesB (p by_ : Int) (r : List Int) : List Int := (List.range r.length).map fun j => r.getD j 0 * by_ % p
def addB (p : Int) (u row : List Int) (t : Int) : List Int := (List.range u.length).map fun j => (u.getD j 0 + row.getD j 0 * t) % p
theorem timesB_row {p by_ : Int} {C : Nat} {r : List Int} (hp : 2 ≤ p) (h : RowP p C r) : RowP p C (timesB p by_ r) := by
  unfold timesB; rw [h.1]; exact RowP_map hp C _ fun j _ => mod_range hp _
theorem addB_row {p t : Int} {C : Nat} {r s : List Int} (hp : 2 ≤ p) (h : RowP p C r) : RowP p C (addB p r s t) := by
  unfold addB; rw [h.1]; exact RowP_map hp C _ fun j _ => mod_range hp _
theorem mul_le31 {p a b : Int} (hp : 2 ≤ p ∧ p ≤ 31) (ha : 0 ≤ a ∧ a ≤ p - 1) (hb : 0 ≤ b ∧ b ≤ p) : 0 ≤ a * b ∧ a * b ≤ 1000 := by
  refine ⟨Int.mul_nonneg ha.1 hb.1, ?_⟩
  have h1 : a * b ≤ 30 * b := Int.mul_le_mul_of_nonneg_right (by omega) hb.1
  omega
theorem impl_scaled_ev {p by_ : Int} {C : Nat} {r : List Int} (hp : 2 ≤ p ∧ p ≤ 31) (hC : C ≤ 1000) (h : RowP p C r) (hb : 0 ≤ by_ ∧ by_ ≤ p) : Ev (fun k => impl_scaled.f k p r by_) (timesB p by_ r) := by
  unfold impl_scaled.f timesB
  refine setloop_ev (0 : Int) (l := fun k i xs => impl_scaled.l0 k p xs by_ (r.length : Int) i) r (fun _ x => x * by_ % p) (fun i xs hi hx hj t ht => ?_) (fun xs hx => ?_)
  · have hl := h.1
    refine Ev.step (fun k => ?_) ht
    have hm := mul_le31 hp (h.2 i) hb
    have e := hj i hi
    rw [if_neg (by omega)] at e
    simp only [impl_scaled.l0]
    rw [if_pos (by omega), if_pos (by omega), if_pos (by omega), if_neg (by omega), rd_cast, e, wr (by omega) (by omega), Int.tmod_eq_emod_of_nonneg hm.1, wr (by omega) (by omega)]
    rfl
  · refine Ev.step (f := fun _ => some xs) (fun k => ?_) (Ev.now _)
    simp only [impl_scaled.l0]
    rw [if_neg (by omega)]
theorem impl_takeOff_ev {p t : Int} {C : Nat} {r s : List Int} (hp : 2 ≤ p ∧ p ≤ 31) (hC : C ≤ 1000) (h : RowP p C r) (hs : RowP p C s) (ht : 0 ≤ t ∧ t ≤ p) : Ev (fun k => impl_takeOff.f k p r s t) (addB p r s (p - t)) := by
  unfold impl_takeOff.f addB
  have hl := h.1
  have hsl := hs.1
  refine setloop_ev (0 : Int) (l := fun k i xs => impl_takeOff.l0 k p xs t s (s.length : Int) i) r (fun j x => (x + s.getD j 0 * (p - t)) % p) (fun i xs hi hx hj q hq => ?_) (fun xs hx => ?_)
  · refine Ev.step (fun k => ?_) hq
    have hm := mul_le31 hp (hs.2 i) (b := p - t) (by omega)
    have hr := h.2 i
    have e := hj i hi
    rw [if_neg (by omega)] at e
    simp only [impl_takeOff.l0]
    rw [if_pos (by omega), if_pos (by omega), if_pos (by omega), if_pos (by omega), if_neg (by omega), rd_cast, rd_cast, e, wr (x := p - t) (by omega) (by omega), Int.mul_comm (p - t), wr (x := s.getD i 0 * (p - t)) (by omega) (by omega), wr (x := r.getD i 0 + _) (by omega) (by omega), Int.tmod_eq_emod_of_nonneg (by omega), wr (by omega) (by omega)]
    rfl
  · refine Ev.step (f := fun _ => some xs) (fun k => ?_) (Ev.now _)
    simp only [impl_takeOff.l0]
    rw [if_neg (by omega)]
/-- The first row from a on whose element c is not 0; the number of rows where there is none. -/
def findN (rows : List (List Int)) (c a : Nat) : Nat := a + (rows.drop a).findIdx (fun r => r.getD c 0 != 0)
theorem findN_here {rows : List (List Int)} {c a : Nat} (ha : a < rows.length) (h : (grp rows a).getD c 0 ≠ 0) : findN rows c a = a := by
  unfold findN
  rw [List.drop_eq_getElem_cons ha, List.findIdx_cons]
  have : (rows[a].getD c 0 != 0) = true := by rw [show rows[a] = grp rows a from by simp [grp, ha]]; exact bne_iff_ne.mpr h
  rw [this]; rfl
theorem findN_next {rows : List (List Int)} {c a : Nat} (ha : a < rows.length) (h : (grp rows a).getD c 0 = 0) : findN rows c a = findN rows c (a + 1) := by
  unfold findN
  rw [List.drop_eq_getElem_cons ha, List.findIdx_cons]
  have : (rows[a].getD c 0 != 0) = false := by rw [show rows[a] = grp rows a from by simp [grp, ha], h]; rfl
  rw [this]
  simp only [cond_false]
  omega
theorem findN_end {rows : List (List Int)} {c a : Nat} (ha : rows.length ≤ a) : findN rows c a = a := by
  unfold findN
  rw [List.drop_eq_nil_of_le ha]; rfl
theorem findN_le {rows : List (List Int)} {c : Nat} : ∀ (d a : Nat), a + d = rows.length → a ≤ findN rows c a ∧ findN rows c a ≤ rows.length ∧ (findN rows c a < rows.length → (grp rows (findN rows c a)).getD c 0 ≠ 0) ∧ ∀ j, a ≤ j → j < findN rows c a → (grp rows j).getD c 0 = 0 := by
  intro d
  induction d with
  | zero =>
    intro a ha
    rw [findN_end (by omega)]
    exact ⟨Nat.le_refl _, by omega, fun h => by omega, fun j h1 h2 => by omega⟩
  | succ d ih =>
    intro a ha
    by_cases h : (grp rows a).getD c 0 = 0
    · rw [findN_next (by omega) h]
      obtain ⟨h1, h2, h3, h4⟩ := ih (a + 1) (by omega)
      refine ⟨by omega, h2, h3, fun j hj hj2 => ?_⟩
      by_cases e : j = a
      · rw [e]; exact h
      · exact h4 j (by omega) hj2
    · rw [findN_here (by omega) h]
      exact ⟨Nat.le_refl _, by omega, fun _ => h, fun j h1 h2 => by omega⟩
theorem findB_ev {p : Int} {C c : Nat} {rows : List (List Int)} (hM : MatP p C rows) (hc : c < C) (hl : rows.length ≤ 1000) : ∀ (d a : Nat), a + d = rows.length → Ev (fun k => findB k rows (c : Int) (a : Int)) ((findN rows c a : Nat) : Int) := by
  intro d
  induction d with
  | zero =>
    intro a ha
    rw [findN_end (by omega)]
    refine Ev.step (f := fun _ => some (a : Int)) (fun k => ?_) (Ev.now _)
    simp only [findB]
    rw [if_neg (by omega)]
  | succ d ih =>
    intro a ha
    have hr := (hM a (by omega)).1
    by_cases h : (grp rows a).getD c 0 = 0
    · rw [findN_next (by omega) h]
      refine Ev.step (fun k => ?_) (ih (a + 1) (by omega))
      simp only [findB]
      rw [if_pos (by omega), if_pos (by omega), if_pos (by omega), rdL_cast, if_pos (by omega), rd_cast, if_pos h, wr (by omega) (by omega)]
      rfl
    · rw [findN_here (by omega) h]
      refine Ev.step (f := fun _ => some (a : Int)) (fun k => ?_) (Ev.now _)
      simp only [findB]
      rw [if_pos (by omega), if_pos (by omega), if_pos (by omega), rdL_cast, if_pos (by omega), rd_cast, if_neg h]
theorem swapB_grp {rows : List (List Int)} {n a : Nat} (hn : n < rows.length) (ha : a < rows.length) (j : Nat) : grp (swapB rows n a) j = if j = a then grp rows n else if j = n then grp rows a else grp rows j := by
  unfold swapB grp
  rw [getD_set _ _ _ _ _ (by rw [List.length_set]; exact ha), getD_set _ _ _ _ _ hn, rdL_cast, rdL_cast]
  rfl
theorem swapB_length (rows : List (List Int)) (n a : Nat) : (swapB rows n a).length = rows.length := by simp [swapB]
def elimB (p : Int) (c n : Nat) (rows : List (List Int)) : List (List Int) := (List.range rows.length).map fun i => if i = n then grp rows i else addB p (grp rows i) (grp rows n) (p - (grp rows i).getD c 0)
theorem addB_p {p : Int} {C : Nat} {r s : List Int} (hp : 2 ≤ p) (h : RowP p C r) : addB p r s p = r := by
  refine list_eq_getD 0 (by simp [addB]) fun j hj => ?_
  unfold addB
  rw [getD_map _ _ _ _ (by simpa [addB] using hj), Int.add_mul_emod_self_right]
  have := h.2 j
  exact Int.emod_eq_of_lt this.1 (by omega)
theorem impl_elim_ev {p : Int} {C c n : Nat} {rows : List (List Int)} (hp : 2 ≤ p ∧ p ≤ 31) (hC : C ≤ 1000) (hl : rows.length ≤ 1000) (hM : MatP p C rows) (hc : c < C) (hn : n < rows.length) :
    Ev (fun k => impl_Matrix_echelon.l2 k p (c : Int) (n : Int) rows 0) (elimB p c n rows) := by
  unfold elimB
  refine setloop_ev ([] : List Int) (l := fun k i xs => impl_Matrix_echelon.l2 k p (c : Int) (n : Int) xs i) rows (fun i x => if i = n then x else addB p x (grp rows n) (p - x.getD c 0)) (fun i xs hi hx hj q hq => ?_) (fun xs hx => ?_)
  · have hr := hM i hi
    have hrn := hM n hn
    have e : grp xs i = grp rows i := by
      have := hj i hi
      rw [if_neg (by omega)] at this
      exact this
    have en : grp xs n = grp rows n := by
      have h2 := hj n hn
      have h3 : (if n < i then (if n = n then rows.getD n [] else addB p (rows.getD n []) (grp rows n) (p - (rows.getD n []).getD c 0)) else rows.getD n []) = rows.getD n [] := by split <;> simp
      exact h2.trans h3
    by_cases hin : i = n
    · subst hin
      have hset : xs.set i (if i = i then rows.getD i [] else addB p (rows.getD i []) (grp rows i) (p - (rows.getD i []).getD c 0)) = xs := by
        rw [if_pos rfl]
        refine list_eq_getD [] (by simp) fun j _ => ?_
        rw [getD_set _ _ _ _ _ (by omega)]
        by_cases h1 : j = i
        · subst h1; rw [if_pos rfl]; exact e.symm
        · rw [if_neg h1]
      rw [hset] at hq
      refine Ev.step (fun k => ?_) hq
      simp only [impl_Matrix_echelon.l2]
      rw [if_pos (by omega), if_pos (by omega), if_pos trivial, wr (by omega) (by omega)]
      rfl
    · refine Ev.step (f := fun k => (impl_takeOff.f k p (grp rows i) (grp rows n) ((grp rows i).getD c 0)).bind fun t => impl_Matrix_echelon.l2 k p (c : Int) (n : Int) (xs.set i t) ((i + 1 : Nat) : Int)) (fun k => ?_) (Ev.bind (impl_takeOff_ev hp hC hr hrn (by have := hr.2 c; omega)) ?_)
      · have h1 := hr.1
        simp only [impl_Matrix_echelon.l2]
        rw [if_pos (by omega), if_pos (by omega), if_neg (by omega), if_pos (by omega), if_pos (by omega), if_pos (by omega), rdL_cast, rdL_cast, e, en, if_pos (by omega), rd_cast, wr (by omega) (by omega)]
        rfl
      · rw [if_neg hin] at hq
        exact hq
  · refine Ev.step (f := fun _ => some xs) (fun k => ?_) (Ev.now _)
    simp only [impl_Matrix_echelon.l2]
    rw [if_neg (by omega)]
end Go.Proofs.Ytjpbemomocccaaa.P

namespace Go.Proofs.Ytjpbemomocccaaa.P
open Go.RowKit Go.Proofs.YtjpbemomocccaaaW.PrintWords Go.Proofs.YtjpbemomocccaaaW.PrintLast Go.Proofs.YtjpbemomocccaaaW.PrintMore
attribute [local go_sem] max2_int min2_int max_two min_two max_three min_three max_four min_four
set_option linter.unusedVariables false
set_option linter.unusedSimpArgs false

/-! ### spec_l03Row: function 89 -/
end Go.Proofs.Ytjpbemomocccaaa.P

namespace Go.Proofs.Ytjpbemomocccaaa.P
open Go.RowKit Go.Proofs.YtjpbemomocccaaaW.PrintWords Go.Proofs.YtjpbemomocccaaaW.PrintLast Go.Proofs.YtjpbemomocccaaaW.PrintMore
attribute [local go_sem] max2_int min2_int max_two min_two max_three min_three max_four min_four
set_option linter.unusedVariables false
set_option linter.unusedSimpArgs false

/-! ### spec_l03Ok: function 47 -/
end Go.Proofs.Ytjpbemomocccaaa.P

namespace Go.Proofs.Ytjpbemomocccaaa.P
open Go.RowKit Go.Proofs.YtjpbemomocccaaaW.PrintWords Go.Proofs.YtjpbemomocccaaaW.PrintLast Go.Proofs.YtjpbemomocccaaaW.PrintMore
attribute [local go_sem] max2_int min2_int max_two min_two max_three min_three max_four min_four
set_option linter.unusedVariables false
set_option linter.unusedSimpArgs false

/-! ### spec_EchelonOf: function 13 -/
end Go.Proofs.Ytjpbemomocccaaa.P

namespace Go.Proofs.Ytjpbemomocccaaa.P
open Go.RowKit Go.Proofs.YtjpbemomocccaaaW.PrintWords Go.Proofs.YtjpbemomocccaaaW.PrintLast Go.Proofs.YtjpbemomocccaaaW.PrintMore
attribute [local go_sem] max2_int min2_int max_two min_two max_three min_three max_four min_four
set_option linter.unusedVariables false
set_option linter.unusedSimpArgs false

/-! ### impl_EchelonOf: function 15 -/
end Go.Proofs.Ytjpbemomocccaaa.P

namespace Go.Proofs.Ytjpbemomocccaaa.P
open Go.RowKit Go.Proofs.YtjpbemomocccaaaW.PrintWords Go.Proofs.YtjpbemomocccaaaW.PrintLast Go.Proofs.YtjpbemomocccaaaW.PrintMore
attribute [local go_sem] max2_int min2_int max_two min_two max_three min_three max_four min_four
set_option linter.unusedVariables false
set_option linter.unusedSimpArgs false

/-- A row of a matrix: elements modulo p, as many as there are columns. -/
def rowB (p cols : Int) (r : List Int) : Bool := decide ((r.length : Int) = cols) && elemsB p r
def validMB (p cols : Int) (rows : List (List Int)) : Bool := primeB p && (decide (0 ≤ cols ∧ cols ≤ 12) && (decide (rows.length ≤ 20) && rows.all (rowB p cols)))
theorem idxR_ev (p : Nat → List Int → Option Bool) (q : List Int → Bool) (xs : List (List Int)) (hlen : xs.length ≤ 4611686018427387904) (hp : ∀ x ∈ xs, Ev (fun k => p k x) (q x)) (hm : ∀ x k, LeO (p k x) (p (k + 1) x)) :
    ∀ d i : Nat, i + d = xs.length → ∃ r : Int, Ev (fun k => idxR.l0 k (p k) xs (i : Int)) r ∧ decide (0 ≤ r) = (xs.drop i).any q := by
  have up : ∀ {r : Int} {i : Int}, Ev (fun k => idxR.l0 k (p k) xs i) r → Ev (fun k => idxR.l0 k (p (k + 1)) xs i) r := by
    rintro r i ⟨K, h⟩
    exact ⟨K, fun k hk => idxR.mono_p _ _ _ _ _ (fun x => hm x k) r (h k hk)⟩
  have one : ∀ x ∈ xs, Ev (fun k => p (k + 1) x) (q x) := fun x hx => by
    obtain ⟨K, h⟩ := hp x hx
    exact ⟨K, fun k hk => h (k + 1) (by omega)⟩
  intro d
  induction d with
  | zero =>
    intro i hi
    refine ⟨-1, Ev.step (f := fun _ => some (-1)) (fun k => ?_) (Ev.now _), ?_⟩
    · simp only [idxR.l0]
      rw [if_neg (by omega)]
    · rw [List.drop_eq_nil_of_le (by omega)]; rfl
  | succ d ih =>
    intro i hi
    have hlt : i < xs.length := by omega
    obtain ⟨r, hr, hd⟩ := ih (i + 1) (by omega)
    have hx := one _ (List.getElem_mem hlt)
    rw [List.drop_eq_getElem_cons hlt, List.any_cons]
    have step : ∀ {r : Int}, Ev (fun k => (p (k + 1) xs[i]).bind fun t => if t = true then some (i : Int) else idxR.l0 k (p (k + 1)) xs ((i + 1 : Nat) : Int)) r → Ev (fun k => idxR.l0 k (p k) xs (i : Int)) r := fun h => by
      refine Ev.step (g := fun k => idxR.l0 k (p k) xs (i : Int)) (fun k => ?_) h
      simp only [idxR.l0]
      rw [if_pos (by omega), if_pos (by omega), rdL_nat xs i hlt, wr (by omega) (by omega)]
      rfl
    cases hq : q xs[i] with
    | true =>
      refine ⟨i, step (Ev.bind hx ?_), ?_⟩
      · simp only [hq, if_true]; exact Ev.now _
      · rw [Bool.true_or]; exact decide_eq_true (by omega)
    | false =>
      refine ⟨r, step (Ev.bind hx ?_), ?_⟩
      · simp only [hq]; exact up hr
      · rw [Bool.false_or]; exact hd
theorem hasR_ev (p : Nat → List Int → Option Bool) (q : List Int → Bool) (xs : List (List Int)) (hlen : xs.length ≤ 4611686018427387904) (hp : ∀ x ∈ xs, Ev (fun k => p k x) (q x)) (hm : ∀ x k, LeO (p k x) (p (k + 1) x)) : Ev (fun k => hasR.f k (p k) xs) (xs.any q) := by
  obtain ⟨r, hr, hd⟩ := idxR_ev p q xs hlen hp hm xs.length 0 (by omega)
  rw [List.drop_zero] at hd
  rw [← hd]
  exact Ev.bind hr (Ev.now _)
theorem not_any_all {α : Type} (l : List α) (q : α → Bool) : (!(l.any fun a => !q a)) = l.all q := by
  induction l with
  | nil => rfl
  | cons a l ih => rw [List.any_cons, List.all_cons, ← ih, Bool.not_or, Bool.not_not]
theorem impl_ValidMatrix_ev (p cols : Int) (rows : List (List Int)) (hl : rows.length ≤ 4611686018427387904) (hr : ∀ r ∈ rows, r.length ≤ 4611686018427387904) : Ev (fun k => impl_ValidMatrix.f k p cols rows) (validMB p cols rows) := by
  unfold impl_ValidMatrix.f validMB
  refine Ev.bind (impl_IsPrime_ev p) ?_
  cases hp : primeB p with
  | false => exact Ev.now _
  | true =>
    simp only [if_true, impl_within_eq, Option.bind_some, Bool.true_and]
    cases hc : decide (0 ≤ cols ∧ cols ≤ 12) with
    | false => exact Ev.now _
    | true =>
      simp only [if_true, Bool.true_and]
      by_cases h20 : (rows.length : Int) ≤ 20
      · rw [decide_eq_true (show rows.length ≤ 20 by omega), Bool.true_and, ← not_any_all]
        simp only [if_pos h20]
        refine Ev.bind (hasR_ev (fun k => ValidMatrix_p k p cols) (fun r => !rowB p cols r) rows hl (fun r hrm => ?_) (fun x k => ValidMatrix_p.mono _ _ _ _)) (Ev.now _)
        unfold ValidMatrix_p rowB
        by_cases e : (r.length : Int) = cols
        · simp only [if_pos e, decide_eq_true e, Bool.true_and]
          have := impl_areElements_ev p r (hr r hrm)
          rw [hp, Bool.true_and] at this
          exact Ev.bind this (Ev.now _)
        · simp only [if_neg e, decide_eq_false e, Bool.false_and]
          exact Ev.now _
      · rw [decide_eq_false (show ¬ rows.length ≤ 20 by omega), Bool.false_and]
        simp only [if_neg h20]
        exact Ev.now _

end Go.Proofs.Ytjpbemomocccaaa.P

namespace Go.Proofs.Ytjpbemomocccaaa.P
open Go.RowKit Go.Proofs.YtjpbemomocccaaaW.PrintWords Go.Proofs.YtjpbemomocccaaaW.PrintLast Go.Proofs.YtjpbemomocccaaaW.PrintMore
attribute [local go_sem] max2_int min2_int max_two min_two max_three min_three max_four min_four
set_option linter.unusedVariables false
set_option linter.unusedSimpArgs false

/-! ### laws_markInt64S: function 31 -/
end Go.Proofs.Ytjpbemomocccaaa.P

namespace Go.Proofs.Ytjpbemomocccaaa.P
open Go.RowKit Go.Proofs.YtjpbemomocccaaaW.PrintWords Go.Proofs.YtjpbemomocccaaaW.PrintLast Go.Proofs.YtjpbemomocccaaaW.PrintMore
attribute [local go_sem] max2_int min2_int max_two min_two max_three min_three max_four min_four
set_option linter.unusedVariables false
set_option linter.unusedSimpArgs false

/-! ### laws_markInt64SS: function 53 (by hand) -/
end Go.Proofs.Ytjpbemomocccaaa.P

namespace Go.Proofs.Ytjpbemomocccaaa.P
open Go.RowKit Go.Proofs.YtjpbemomocccaaaW.PrintWords Go.Proofs.YtjpbemomocccaaaW.PrintLast Go.Proofs.YtjpbemomocccaaaW.PrintMore
attribute [local go_sem] max2_int min2_int max_two min_two max_three min_three max_four min_four
set_option linter.unusedVariables false
set_option linter.unusedSimpArgs false

/-! ### laws_markMatrix: function 17 (by hand) -/
end Go.Proofs.Ytjpbemomocccaaa.P

namespace Go.Proofs.Ytjpbemomocccaaa.P
open Go.RowKit Go.Proofs.YtjpbemomocccaaaW.PrintWords Go.Proofs.YtjpbemomocccaaaW.PrintLast Go.Proofs.YtjpbemomocccaaaW.PrintMore
attribute [local go_sem] max2_int min2_int max_two min_two max_three min_three max_four min_four
set_option linter.unusedVariables false
set_option linter.unusedSimpArgs false

/-! ### laws_heldInt64S: function 32 -/
end Go.Proofs.Ytjpbemomocccaaa.P

namespace Go.Proofs.Ytjpbemomocccaaa.P
open Go.RowKit Go.Proofs.YtjpbemomocccaaaW.PrintWords Go.Proofs.YtjpbemomocccaaaW.PrintLast Go.Proofs.YtjpbemomocccaaaW.PrintMore
attribute [local go_sem] max2_int min2_int max_two min_two max_three min_three max_four min_four
set_option linter.unusedVariables false
set_option linter.unusedSimpArgs false

/-! ### laws_heldInt64SS: function 54 -/
end Go.Proofs.Ytjpbemomocccaaa.P

namespace Go.Proofs.Ytjpbemomocccaaa.P
open Go.RowKit Go.Proofs.YtjpbemomocccaaaW.PrintWords Go.Proofs.YtjpbemomocccaaaW.PrintLast Go.Proofs.YtjpbemomocccaaaW.PrintMore
attribute [local go_sem] max2_int min2_int max_two min_two max_three min_three max_four min_four
set_option linter.unusedVariables false
set_option linter.unusedSimpArgs false

/-! ### laws_heldMatrix: function 18 -/
end Go.Proofs.Ytjpbemomocccaaa.P

namespace Go.Proofs.Ytjpbemomocccaaa.P
open Go.RowKit Go.Proofs.YtjpbemomocccaaaW.PrintWords Go.Proofs.YtjpbemomocccaaaW.PrintLast Go.Proofs.YtjpbemomocccaaaW.PrintMore
attribute [local go_sem] max2_int min2_int max_two min_two max_three min_three max_four min_four
set_option linter.unusedVariables false
set_option linter.unusedSimpArgs false

/-! ### laws_markScheme: function 44 (by hand) -/
end Go.Proofs.Ytjpbemomocccaaa.P

namespace Go.Proofs.Ytjpbemomocccaaa.P
open Go.RowKit Go.Proofs.YtjpbemomocccaaaW.PrintWords Go.Proofs.YtjpbemomocccaaaW.PrintLast Go.Proofs.YtjpbemomocccaaaW.PrintMore
attribute [local go_sem] max2_int min2_int max_two min_two max_three min_three max_four min_four
set_option linter.unusedVariables false
set_option linter.unusedSimpArgs false

/-! ### laws_heldScheme: function 45 -/
end Go.Proofs.Ytjpbemomocccaaa.P

namespace Go.Proofs.Ytjpbemomocccaaa.P
open Go.RowKit Go.Proofs.YtjpbemomocccaaaW.PrintWords Go.Proofs.YtjpbemomocccaaaW.PrintLast Go.Proofs.YtjpbemomocccaaaW.PrintMore
attribute [local go_sem] max2_int min2_int max_two min_two max_three min_three max_four min_four
set_option linter.unusedVariables false
set_option linter.unusedSimpArgs false

def allLen (rows : List (List Int)) : Nat := (rows.map List.length).sum
end Go.Proofs.Ytjpbemomocccaaa.P

namespace Go.Proofs.Ytjpbemomocccaaa.P
open Go.RowKit Go.Proofs.YtjpbemomocccaaaW.PrintWords Go.Proofs.YtjpbemomocccaaaW.PrintLast Go.Proofs.YtjpbemomocccaaaW.PrintMore
attribute [local go_sem] max2_int min2_int max_two min_two max_three min_three max_four min_four
set_option linter.unusedVariables false
set_option linter.unusedSimpArgs false

/-- A loop that puts one value after another behind a list. -/
theorem build_ev {α ρ : Type} {l : Nat → Int → List α → Option ρ} (n : Nat) (f : Nat → α) {fin : ρ}
    (hgo : ∀ (i : Nat) (acc : List α), i < n → acc.length = i → ∀ r, Ev (fun k => l k ((i + 1 : Nat) : Int) (acc ++ [f i])) r → Ev (fun k => l k (i : Int) acc) r)
    (hend : Ev (fun k => l k (n : Int) ((List.range n).map f)) fin) : Ev (fun k => l k 0 []) fin := by
  have key : ∀ d i : Nat, i + d = n → Ev (fun k => l k (i : Int) ((List.range i).map f)) fin := by
    intro d
    induction d with
    | zero =>
      intro i hi
      obtain rfl : i = n := by omega
      exact hend
    | succ d ih =>
      intro i hi
      refine hgo i _ (by omega) (by simp) _ ?_
      have := ih (i + 1) (by omega)
      rwa [List.range_succ, List.map_append] at this
  exact key n 0 (by omega)
theorem elemsB_get {p : Int} {l : List Int} (h : elemsB p l = true) (i : Nat) (hi : i < l.length) : 0 ≤ l[i] ∧ l[i] ≤ p - 1 := by
  unfold elemsB at h
  exact of_decide_eq_true (List.all_eq_true.mp h _ (List.getElem_mem hi))
end Go.Proofs.Ytjpbemomocccaaa.P

namespace Go.Proofs.Ytjpbemomocccaaa.P
open Go.RowKit Go.Proofs.YtjpbemomocccaaaW.PrintWords Go.Proofs.YtjpbemomocccaaaW.PrintLast Go.Proofs.YtjpbemomocccaaaW.PrintMore
attribute [local go_sem] max2_int min2_int max_two min_two max_three min_three max_four min_four
set_option linter.unusedVariables false
set_option linter.unusedSimpArgs false

/-! ### spec_l03Turned: function 100 -/
end Go.Proofs.Ytjpbemomocccaaa.P

namespace Go.Proofs.Ytjpbemomocccaaa.P
open Go.RowKit Go.Proofs.YtjpbemomocccaaaW.PrintWords Go.Proofs.YtjpbemomocccaaaW.PrintLast Go.Proofs.YtjpbemomocccaaaW.PrintMore
attribute [local go_sem] max2_int min2_int max_two min_two max_three min_three max_four min_four
set_option linter.unusedVariables false
set_option linter.unusedSimpArgs false

/-! ### spec_l03Told: function 55 -/
end Go.Proofs.Ytjpbemomocccaaa.P

namespace Go.Proofs.Ytjpbemomocccaaa.P
open Go.RowKit Go.Proofs.YtjpbemomocccaaaW.PrintWords Go.Proofs.YtjpbemomocccaaaW.PrintLast Go.Proofs.YtjpbemomocccaaaW.PrintMore
attribute [local go_sem] max2_int min2_int max_two min_two max_three min_three max_four min_four
set_option linter.unusedVariables false
set_option linter.unusedSimpArgs false

/-! ### impl_matrixOrLimit: function 57 -/
end Go.Proofs.Ytjpbemomocccaaa.P

namespace Go.Proofs.Ytjpbemomocccaaa.P
open Go.RowKit Go.Proofs.YtjpbemomocccaaaW.PrintWords Go.Proofs.YtjpbemomocccaaaW.PrintLast Go.Proofs.YtjpbemomocccaaaW.PrintMore
attribute [local go_sem] max2_int min2_int max_two min_two max_three min_three max_four min_four
set_option linter.unusedVariables false
set_option linter.unusedSimpArgs false

/-- The columns of a matrix. -/
def colB (rows : List (List Int)) (c : Nat) : List Int := (List.range rows.length).map fun i => (grp rows i).getD c 0
def turnB (cols : Nat) (rows : List (List Int)) : List (List Int) := (List.range cols).map (colB rows)
theorem validMB_parts {p cols : Int} {rows : List (List Int)} (h : validMB p cols rows = true) : (2 ≤ p ∧ p ≤ 31) ∧ (0 ≤ cols ∧ cols ≤ 12) ∧ rows.length ≤ 20 ∧ (∀ i, i < rows.length → ((grp rows i).length : Int) = cols ∧ elemsB p (grp rows i) = true) := by
  unfold validMB at h
  simp only [Bool.and_eq_true, decide_eq_true_eq] at h
  refine ⟨primeB_range h.1, h.2.1, h.2.2.1, fun i hi => ?_⟩
  have := List.all_eq_true.mp h.2.2.2 rows[i] (List.getElem_mem hi)
  unfold rowB at this
  simp only [Bool.and_eq_true, decide_eq_true_eq] at this
  rw [show grp rows i = rows[i] from by simp [grp, hi]]
  exact this
theorem turnB_length (cols : Nat) (rows : List (List Int)) : (turnB cols rows).length = cols := by simp [turnB]
theorem sum_le_mul (l : List Nat) (m : Nat) (h : ∀ x ∈ l, x ≤ m) : l.sum ≤ l.length * m := by
  induction l with
  | nil => simp
  | cons a l ih =>
    have := ih (fun x hx => h x (List.mem_cons_of_mem _ hx))
    have := h a (List.mem_cons_self ..)
    rw [List.sum_cons, List.length_cons, Nat.succ_mul]
    omega
theorem validMB_small {p cols : Int} {rows : List (List Int)} (h : validMB p cols rows = true) : rows.length ≤ 20 ∧ (∀ r ∈ rows, r.length ≤ 12) ∧ allLen rows ≤ 240 := by
  obtain ⟨_, h2, h3, h4⟩ := validMB_parts h
  have hr : ∀ r ∈ rows, r.length ≤ 12 := fun r hr => by
    obtain ⟨i, hi, rfl⟩ := List.getElem_of_mem hr
    have := (h4 i hi).1
    rw [show grp rows i = rows[i] from by simp [grp, hi]] at this
    omega
  refine ⟨h3, hr, ?_⟩
  unfold allLen
  have := sum_le_mul (rows.map List.length) 12 (fun x hx => by obtain ⟨r, hr', rfl⟩ := List.mem_map.mp hx; exact hr r hr')
  rw [List.length_map] at this
  omega
end Go.Proofs.Ytjpbemomocccaaa.P

namespace Go.Proofs.Ytjpbemomocccaaa.P
open Go.RowKit Go.Proofs.YtjpbemomocccaaaW.PrintWords Go.Proofs.YtjpbemomocccaaaW.PrintLast Go.Proofs.YtjpbemomocccaaaW.PrintMore
attribute [local go_sem] max2_int min2_int max_two min_two max_three min_three max_four min_four
set_option linter.unusedVariables false
set_option linter.unusedSimpArgs false

theorem clone_eq (l : List Int) (hl : l.length ≤ 1048576) : slices_Clone_int64_int64.f l = some l := by
  unfold slices_Clone_int64_int64.f
  rw [if_pos (by omega)]

end Go.Proofs.Ytjpbemomocccaaa.P

namespace Go.Proofs.Ytjpbemomocccaaa.P
open Go.RowKit Go.Proofs.YtjpbemomocccaaaW.PrintWords Go.Proofs.YtjpbemomocccaaaW.PrintLast Go.Proofs.YtjpbemomocccaaaW.PrintMore
attribute [local go_sem] max2_int min2_int max_two min_two max_three min_three max_four min_four
set_option linter.unusedVariables false
set_option linter.unusedSimpArgs false

/-- One column of the echelon. -/
def stepB (p : Int) (s : List (List Int) × List Int) (c : Nat) : List (List Int) × List Int :=
  if findN s.1 c s.2.length < s.1.length then
    (elimB p c s.2.length ((swapB s.1 s.2.length (findN s.1 c s.2.length)).set s.2.length (timesB p (invB p ((grp s.1 (findN s.1 c s.2.length)).getD c 0)) (grp s.1 (findN s.1 c s.2.length)))), s.2 ++ [(c : Int)])
  else s
/-- The rows and the columns of their first elements, behind all columns; the rows beyond these columns' number are still there. -/
def fullB (p : Int) (C : Nat) (rows : List (List Int)) : List (List Int) × List Int := (List.range C).foldl (stepB p) (rows, [])
structure EchP (p : Int) (C : Nat) (s : List (List Int) × List Int) : Prop where
  mat : MatP p C s.1
  le : s.2.length ≤ s.1.length
  rl : s.1.length ≤ 1000
theorem elimB_length (p : Int) (c n : Nat) (rows : List (List Int)) : (elimB p c n rows).length = rows.length := by simp [elimB]
theorem elimB_grp {p : Int} {c n : Nat} {rows : List (List Int)} {i : Nat} (hi : i < rows.length) : grp (elimB p c n rows) i = if i = n then grp rows i else addB p (grp rows i) (grp rows n) (p - (grp rows i).getD c 0) := by
  unfold elimB
  show ((List.range rows.length).map _).getD i [] = _
  rw [getD_map _ _ _ _ hi]
theorem elimB_mat {p : Int} {C c n : Nat} {rows : List (List Int)} (hp : 2 ≤ p) (h : MatP p C rows) : MatP p C (elimB p c n rows) := by
  intro i hi
  rw [elimB_length] at hi
  rw [elimB_grp hi]
  split
  · exact h i hi
  · exact addB_row hp (h i hi)
theorem set_mat {p : Int} {C n : Nat} {rows : List (List Int)} {r : List Int} (h : MatP p C rows) (hn : n < rows.length) (hr : RowP p C r) : MatP p C (rows.set n r) := by
  intro i hi
  rw [List.length_set] at hi
  show RowP p C ((rows.set n r).getD i [])
  rw [getD_set _ _ _ _ _ hn]
  split
  · exact hr
  · exact h i hi
theorem swap_mat {p : Int} {C n a : Nat} {rows : List (List Int)} (h : MatP p C rows) (hn : n < rows.length) (ha : a < rows.length) : MatP p C (swapB rows n a) := by
  intro i hi
  rw [swapB_length] at hi
  rw [swapB_grp hn ha]
  split
  · exact h n hn
  · split
    · exact h a ha
    · exact h i hi
theorem step_ech {p : Int} {C : Nat} {s : List (List Int) × List Int} (hp : 2 ≤ p) (h : EchP p C s) (c : Nat) : EchP p C (stepB p s c) := by
  unfold stepB
  by_cases ha : findN s.1 c s.2.length < s.1.length
  · have hle := (findN_le (rows := s.1) (c := c) (s.1.length - s.2.length) s.2.length (by have := h.le; omega)).1
    have hn : s.2.length < s.1.length := by omega
    rw [if_pos ha]
    refine ⟨elimB_mat hp (set_mat (swap_mat h.mat hn ha) (by rw [swapB_length]; exact hn) (timesB_row hp (h.mat _ ha))), ?_, ?_⟩
    · simp only [elimB_length, List.length_set, swapB_length, List.length_append, List.length_singleton]; omega
    · simp only [elimB_length, List.length_set, swapB_length]; exact h.rl
  · rw [if_neg ha]; exact h
theorem step_length (p : Int) (s : List (List Int) × List Int) (c : Nat) : (stepB p s c).1.length = s.1.length := by
  unfold stepB
  split
  · simp [elimB_length, swapB_length]
  · rfl
theorem invB_range {p a : Int} (hp : 2 ≤ p) : 0 ≤ invB p a ∧ invB p a ≤ p - 1 := pw_range hp _
theorem impl_ech_loop {p : Int} {C : Nat} (hp : 2 ≤ p ∧ p ≤ 31) (hC : C ≤ 1000) : ∀ (d c : Nat) (s : List (List Int) × List Int), c + d = C → EchP p C s → Ev (fun k => impl_Matrix_echelon.l0 k p (C : Int) s.1 s.2 (c : Int)) ((List.range' c d).foldl (stepB p) s) := by
  intro d
  induction d with
  | zero =>
    intro c s hc h
    refine Ev.step (f := fun _ => some (s.1, s.2)) (fun k => ?_) (Ev.now _)
    simp only [impl_Matrix_echelon.l0]
    rw [if_neg (by omega)]
  | succ d ih =>
    intro c s hc h
    have hn := ih (c + 1) (stepB p s c) (by omega) (step_ech hp.1 h c)
    rw [List.range'_succ, List.foldl_cons]
    obtain ⟨g1, g2, g3, g4⟩ := findN_le (rows := s.1) (c := c) (s.1.length - s.2.length) s.2.length (by have := h.le; omega)
    have hrl := h.rl
    refine Ev.step (f := fun k => (findB k s.1 (c : Int) (s.2.length : Int)).bind fun a => if a = (s.1.length : Int) then impl_Matrix_echelon.l0 k p (C : Int) s.1 s.2 ((c + 1 : Nat) : Int) else (if 0 ≤ a then (if a < (s.1.length : Int) then (if (s.2.length : Int) < (s.1.length : Int) then (if 0 ≤ (c : Int) then (if (c : Int) < ((rd_L1 (swapB s.1 s.2.length a.toNat) (s.2.length : Int)).length : Int) then ((impl_inverse.f k p (rd (rd_L1 (swapB s.1 s.2.length a.toNat) (s.2.length : Int)) (c : Int))).bind fun inv => ((impl_scaled.f k p (rd_L1 (swapB s.1 s.2.length a.toNat) (s.2.length : Int)) inv).bind fun r => ((impl_Matrix_echelon.l2 k p (c : Int) (s.2.length : Int) ((swapB s.1 s.2.length a.toNat).set s.2.length r) 0).bind fun rows2 => if s.2.length < 17592186044416 then impl_Matrix_echelon.l0 k p (C : Int) rows2 (s.2 ++ [(c : Int)]) ((c + 1 : Nat) : Int) else none))) else none) else none) else none) else none) else none)) (fun k => ?_) ?_
    · simp only [impl_Matrix_echelon.l0]
      rw [if_pos (by omega), wr (x := (c : Int) + 1) (by omega) (by omega)]
      rfl
    · refine Ev.bind (findB_ev h.mat (by omega) hrl (s.1.length - s.2.length) s.2.length (by have := h.le; omega)) ?_
      by_cases ha : findN s.1 c s.2.length < s.1.length
      · have hlt : s.2.length < s.1.length := by omega
        have hra := h.mat _ ha
        have e1 : grp (swapB s.1 s.2.length (findN s.1 c s.2.length)) s.2.length = grp s.1 (findN s.1 c s.2.length) := by
          rw [swapB_grp hlt ha]
          split
          · rename_i e; rw [← e]
          · rw [if_pos rfl]
        have hl := hra.1
        simp only [if_neg (show ¬ ((findN s.1 c s.2.length : Nat) : Int) = (s.1.length : Int) by omega), if_pos (show (0 : Int) ≤ ((findN s.1 c s.2.length : Nat) : Int) by omega), if_pos (show ((findN s.1 c s.2.length : Nat) : Int) < (s.1.length : Int) by omega), if_pos (show (s.2.length : Int) < (s.1.length : Int) by omega), if_pos (show (0 : Int) ≤ (c : Int) by omega), Int.toNat_natCast, rdL_cast, e1, rd_cast, if_pos (show (c : Int) < ((grp s.1 (findN s.1 c s.2.length)).length : Int) by omega), if_pos (show s.2.length < 17592186044416 by omega)]
        refine Ev.bind (impl_inverse_ev p _ hp (hra.2 c)) (Ev.bind (impl_scaled_ev hp hC hra (by have := invB_range (a := (grp s.1 (findN s.1 c s.2.length)).getD c 0) hp.1; unfold invB at *; omega)) (Ev.bind (impl_elim_ev hp hC (by rw [List.length_set, swapB_length]; exact hrl) (set_mat (swap_mat h.mat hlt ha) (by rw [swapB_length]; exact hlt) (timesB_row hp.1 hra)) (by omega) (by rw [List.length_set, swapB_length]; exact hlt)) ?_))
        unfold stepB at hn ⊢
        rw [if_pos ha] at hn ⊢
        exact hn
      · simp only [if_pos (show ((findN s.1 c s.2.length : Nat) : Int) = (s.1.length : Int) by omega)]
        unfold stepB at hn ⊢
        rw [if_neg ha] at hn ⊢
        exact hn
theorem fold_ech {p : Int} {C : Nat} (hp : 2 ≤ p) : ∀ (l : List Nat) (s : List (List Int) × List Int), EchP p C s → EchP p C (l.foldl (stepB p) s) ∧ (l.foldl (stepB p) s).1.length = s.1.length := by
  intro l
  induction l with
  | nil => intro s h; exact ⟨h, rfl⟩
  | cons c l ih =>
    intro s h
    obtain ⟨h1, h2⟩ := ih (stepB p s c) (step_ech hp h c)
    exact ⟨h1, h2.trans (step_length p s c)⟩
theorem full_ech {p : Int} {C : Nat} {rows : List (List Int)} (hp : 2 ≤ p) (hM : MatP p C rows) (hl : rows.length ≤ 1000) : EchP p C (fullB p C rows) ∧ (fullB p C rows).1.length = rows.length := fold_ech hp _ _ ⟨hM, Nat.zero_le _, hl⟩
/-- The echelon's rows and the columns of their first elements. -/
def echB (p : Int) (C : Nat) (rows : List (List Int)) : List (List Int) × List Int := ((fullB p C rows).1.take (fullB p C rows).2.length, (fullB p C rows).2)
theorem copies_same (rows : List (List Int)) : (List.range rows.length).map (fun i => grp rows i) = rows := list_of_getD rows []
theorem impl_copyRows_ev (rows : List (List Int)) (hl : rows.length ≤ 1048576) (hr : ∀ r ∈ rows, r.length ≤ 1048576) : Ev (fun k => impl_copyRows.f k rows) rows := by
  unfold impl_copyRows.f
  refine build_ev (l := fun k i acc => impl_copyRows.l0 k acc rows (rows.length : Int) i) rows.length (fun i => grp rows i) (fun i acc hi ha r hr2 => ?_) ?_
  · refine Ev.step (fun k => ?_) hr2
    simp only [impl_copyRows.l0]
    rw [if_pos (by omega), if_pos (by omega), if_pos (by omega), rdL_cast, clone_eq _ (grp_len hr _), wr (by omega) (by omega)]
    simp only [Option.bind_some, if_pos (show acc.length < 5864062014805 by omega)]
    rfl
  · refine Ev.step (f := fun _ => some rows) (fun k => ?_) (Ev.now _)
    simp only [impl_copyRows.l0]
    rw [if_neg (by omega), copies_same]
theorem mat_small {p : Int} {C : Nat} {rows : List (List Int)} (hM : MatP p C rows) : ∀ r ∈ rows, r.length = C := by
  intro r hr
  obtain ⟨i, hi, rfl⟩ := List.getElem_of_mem hr
  have := (hM i hi).1
  rwa [show grp rows i = rows[i] from by simp [grp, hi]] at this
theorem impl_echelon_ev {p : Int} {C : Nat} {rows : List (List Int)} (hp : 2 ≤ p ∧ p ≤ 31) (hC : C ≤ 1000) (hM : MatP p C rows) (hl : rows.length ≤ 1000) : Ev (fun k => impl_Matrix_echelon.f k p (C : Int) rows) (p, (C : Int), (echB p C rows).1, (echB p C rows).2) := by
  unfold impl_Matrix_echelon.f
  have hs := mat_small hM
  refine Ev.bind (impl_copyRows_ev rows (by omega) (fun r hr => by rw [hs r hr]; omega)) ?_
  refine Ev.bind (impl_ech_loop hp hC C 0 (rows, []) (by omega) ⟨hM, Nat.zero_le _, hl⟩) ?_
  rw [← List.range_eq_range']
  have h := (full_ech hp.1 hM hl).1.le
  unfold echB
  show Ev (fun _ => if (fullB p C rows).2.length ≤ (fullB p C rows).1.length then _ else none) _
  simp only [if_pos h]
  exact Ev.now _
theorem MatP_of_valid {p cols : Int} {rows : List (List Int)} (h : validMB p cols rows = true) : (2 ≤ p ∧ p ≤ 31) ∧ (cols.toNat : Int) = cols ∧ cols.toNat ≤ 12 ∧ rows.length ≤ 20 ∧ MatP p cols.toNat rows := by
  obtain ⟨h1, h2, h3, h4⟩ := validMB_parts h
  refine ⟨h1, by omega, by omega, h3, fun i hi => ⟨by have := (h4 i hi).1; omega, fun j => ?_⟩⟩
  by_cases hj : j < (grp rows i).length
  · have := elemsB_get (h4 i hi).2 j hj
    rw [List.getD_eq_getElem?_getD, List.getElem?_eq_getElem hj]
    exact this
  · rw [List.getD_eq_getElem?_getD, List.getElem?_eq_none (by omega)]
    show 0 ≤ (0 : Int) ∧ (0 : Int) ≤ p - 1
    omega
theorem ech_mat {p : Int} {C : Nat} {rows : List (List Int)} (hp : 2 ≤ p) (hM : MatP p C rows) (hl : rows.length ≤ 1000) : MatP p C (echB p C rows).1 ∧ (echB p C rows).1.length = (echB p C rows).2.length ∧ (echB p C rows).1.length ≤ rows.length := by
  obtain ⟨h1, h2⟩ := full_ech hp hM hl
  have hle := h1.le
  have e : (echB p C rows).1.length = (echB p C rows).2.length := by
    unfold echB
    rw [List.length_take]
    show min (fullB p C rows).2.length (fullB p C rows).1.length = (fullB p C rows).2.length
    omega
  refine ⟨fun i hi => ?_, e, ?_⟩
  · have hi2 : i < (fullB p C rows).2.length := by rw [e] at hi; exact hi
    have : grp (echB p C rows).1 i = grp (fullB p C rows).1 i := by
      unfold echB grp
      rw [List.getD_eq_getElem?_getD, List.getD_eq_getElem?_getD, List.getElem?_take, if_pos hi2]
    rw [this]
    exact h1.mat i (by omega)
  · rw [e]; unfold echB; show (fullB p C rows).2.length ≤ _; omega
end Go.Proofs.Ytjpbemomocccaaa.P

namespace Go.Proofs.Ytjpbemomocccaaa.P
open Go.RowKit Go.Proofs.YtjpbemomocccaaaW.PrintWords Go.Proofs.YtjpbemomocccaaaW.PrintLast Go.Proofs.YtjpbemomocccaaaW.PrintMore
attribute [local go_sem] max2_int min2_int max_two min_two max_three min_three max_four min_four
set_option linter.unusedVariables false
set_option linter.unusedSimpArgs false

/-- Sums, and what stays modulo p. -/
def sumN : Nat → (Nat → Int) → Int
  | 0, _ => 0
  | n + 1, f => sumN n f + f n
theorem sumN_congr {n : Nat} {f g : Nat → Int} (h : ∀ i, i < n → f i = g i) : sumN n f = sumN n g := by
  induction n with
  | zero => rfl
  | succ n ih => simp only [sumN]; rw [ih (fun i hi => h i (by omega)), h n (by omega)]
theorem sumN_add (n : Nat) (f g : Nat → Int) : sumN n (fun i => f i + g i) = sumN n f + sumN n g := by
  induction n with
  | zero => rfl
  | succ n ih => simp only [sumN]; rw [ih]; omega
theorem sumN_mul (n : Nat) (c : Int) (f : Nat → Int) : sumN n (fun i => c * f i) = c * sumN n f := by
  induction n with
  | zero => simp [sumN]
  | succ n ih => simp only [sumN]; rw [ih, Int.mul_add]
theorem sumN_zero {n : Nat} {f : Nat → Int} (h : ∀ i, i < n → f i = 0) : sumN n f = 0 := by
  induction n with
  | zero => rfl
  | succ n ih => simp only [sumN]; rw [ih (fun i hi => h i (by omega)), h n (by omega)]; rfl
/-- One of the summands apart. -/
theorem sumN_apart {n a : Nat} (ha : a < n) (f : Nat → Int) : sumN n f = sumN n (fun i => if i = a then 0 else f i) + f a := by
  induction n with
  | zero => omega
  | succ n ih =>
    simp only [sumN]
    by_cases h : a = n
    · subst h
      rw [if_pos rfl, sumN_congr (f := fun i => if i = a then 0 else f i) (g := f) (fun i hi => if_neg (by omega))]
      omega
    · rw [ih (by omega), if_neg (Ne.symm h)]
      omega
/-- Equal modulo p. -/
def Eqm (p a b : Int) : Prop := ∃ k, a = b + p * k
theorem Eqm.rfl_ (p a : Int) : Eqm p a a := ⟨0, by omega⟩
theorem Eqm.of_eq {p a b : Int} (h : a = b) : Eqm p a b := ⟨0, by omega⟩
theorem Eqm.symm {p a b : Int} (h : Eqm p a b) : Eqm p b a := by obtain ⟨k, h⟩ := h; exact ⟨-k, by grind⟩
theorem Eqm.trans {p a b c : Int} (h : Eqm p a b) (h2 : Eqm p b c) : Eqm p a c := by obtain ⟨k, h⟩ := h; obtain ⟨l, h2⟩ := h2; exact ⟨k + l, by grind⟩
theorem Eqm.add {p a b c d : Int} (h : Eqm p a b) (h2 : Eqm p c d) : Eqm p (a + c) (b + d) := by obtain ⟨k, h⟩ := h; obtain ⟨l, h2⟩ := h2; exact ⟨k + l, by grind⟩
theorem Eqm.sub {p a b c d : Int} (h : Eqm p a b) (h2 : Eqm p c d) : Eqm p (a - c) (b - d) := by obtain ⟨k, h⟩ := h; obtain ⟨l, h2⟩ := h2; exact ⟨k - l, by grind⟩
theorem Eqm.mul {p a b c d : Int} (h : Eqm p a b) (h2 : Eqm p c d) : Eqm p (a * c) (b * d) := by obtain ⟨k, h⟩ := h; obtain ⟨l, h2⟩ := h2; exact ⟨k * d + b * l + p * k * l, by grind⟩
theorem Eqm.mod (p a : Int) : Eqm p (a % p) a := ⟨-(a / p), by have := Int.emod_add_mul_ediv a p; grind⟩
theorem Eqm.p_ (p : Int) : Eqm p p 0 := ⟨1, by omega⟩
theorem Eqm.eq_of {p a b : Int} (h : Eqm p a b) (ha : 0 ≤ a ∧ a ≤ p - 1) (hb : 0 ≤ b ∧ b ≤ p - 1) : a = b := by
  obtain ⟨k, h⟩ := h
  have h1 : a % p = b % p := by rw [h]; exact Int.add_mul_emod_self_left b p k
  rwa [Int.emod_eq_of_lt ha.1 (by omega), Int.emod_eq_of_lt hb.1 (by omega)] at h1
theorem Eqm.sumN_ {p : Int} {n : Nat} {f g : Nat → Int} (h : ∀ i, i < n → Eqm p (f i) (g i)) : Eqm p (sumN n f) (sumN n g) := by
  induction n with
  | zero => exact Eqm.rfl_ _ _
  | succ n ih => exact Eqm.add (ih fun i hi => h i (by omega)) (h n (by omega))
theorem inv_all (p : Int) (hp : primeB p = true) (a : Int) (h1 : 1 ≤ a) (h2 : a ≤ p - 1) : (a * invB p a) % p = 1 := by
  have h := primeB_range hp
  have key : ∀ i : Fin 30, primeB ((i.val : Int) + 2) = true → ∀ j : Fin 31, 1 ≤ (j.val : Int) → (j.val : Int) ≤ ((i.val : Int) + 2) - 1 → ((j.val : Int) * invB ((i.val : Int) + 2) (j.val : Int)) % ((i.val : Int) + 2) = 1 := by decide +kernel
  have f31 : ∀ {P : Int → Prop}, (∀ i : Fin 31, P (i.val : Int)) → ∀ a : Int, 0 ≤ a → a ≤ 30 → P a := fun h a h1 h2 => by
    have := h ⟨a.toNat, by omega⟩
    rwa [show ((a.toNat : Nat) : Int) = a by omega] at this
  exact f31 (P := fun a => 1 ≤ a → a ≤ p - 1 → (a * invB p a) % p = 1)
    (fin30 (P := fun p => primeB p = true → ∀ j : Fin 31, 1 ≤ (j.val : Int) → (j.val : Int) ≤ p - 1 → ((j.val : Int) * invB p (j.val : Int)) % p = 1) key p h.1 h.2 hp) a (by omega) (by omega) h1 h2
theorem inv_eqm {p : Int} (hp : primeB p = true) {a : Int} (ha : 0 ≤ a ∧ a ≤ p - 1) (h0 : a ≠ 0) : Eqm p (a * invB p a) 1 := by
  have h := inv_all p hp a (by omega) (by omega)
  have _u1 := @Eqm.symm
  have _u2 := @Eqm.trans
  have := (Eqm.mod p (a * invB p a)).symm
  rwa [h] at this
/-- A row's elements. -/
def elm (r : List Int) (j : Nat) : Int := r.getD j 0
theorem elm_times {p b : Int} {r : List Int} {j : Nat} : Eqm p (elm (timesB p b r) j) (elm r j * b) := by
  unfold elm timesB
  by_cases h : j < r.length
  · rw [getD_map _ _ _ _ h]; exact Eqm.mod _ _
  · rw [List.getD_eq_getElem?_getD, List.getElem?_eq_none (by simp; omega), List.getD_eq_getElem?_getD, List.getElem?_eq_none (by omega)]
    exact Eqm.of_eq (by simp)
theorem elm_add {p t : Int} {C : Nat} {r s : List Int} {j : Nat} (hr : r.length = C) (hs : s.length = C) : Eqm p (elm (addB p r s t) j) (elm r j + elm s j * t) := by
  unfold elm addB
  by_cases h : j < r.length
  · rw [getD_map _ _ _ _ h]; exact Eqm.mod _ _
  · rw [List.getD_eq_getElem?_getD, List.getElem?_eq_none (by simp; omega), List.getD_eq_getElem?_getD, List.getElem?_eq_none (by omega), List.getD_eq_getElem?_getD, List.getElem?_eq_none (by omega)]
    exact Eqm.of_eq (by simp)
/-- What one column does to the elements: the row a goes to the place n, and is taken off all others. -/
structure StepR (p : Int) (C c n a : Nat) (A B : List (List Int)) : Prop where
  len : B.length = A.length
  at_n : ∀ j, Eqm p (elm (grp B n) j) (elm (grp A a) j * invB p (elm (grp A a) c))
  other : ∀ i, i < A.length → i ≠ n → ∀ j, Eqm p (elm (grp B i) j) (elm (grp A (if i = a then n else i)) j + elm (grp B n) j * (p - elm (grp A (if i = a then n else i)) c))
theorem step_found {p : Int} {C c : Nat} {s : List (List Int) × List Int} (hp : 2 ≤ p) (h : EchP p C s) (ha : findN s.1 c s.2.length < s.1.length) :
    StepR p C c s.2.length (findN s.1 c s.2.length) s.1 (stepB p s c).1 ∧ (stepB p s c).2 = s.2 ++ [(c : Int)] ∧ s.2.length ≤ findN s.1 c s.2.length := by
  have hle := (findN_le (rows := s.1) (c := c) (s.1.length - s.2.length) s.2.length (by have := h.le; omega)).1
  have hn : s.2.length < s.1.length := by omega
  have hz : EchP p C (stepB p s c) := step_ech hp h c
  have hmA := h.mat
  unfold stepB at hz ⊢
  rw [if_pos ha] at hz ⊢
  have hra := h.mat _ ha
  have hsw : ∀ i, i < s.1.length → grp ((swapB s.1 s.2.length (findN s.1 c s.2.length)).set s.2.length (timesB p (invB p ((grp s.1 (findN s.1 c s.2.length)).getD c 0)) (grp s.1 (findN s.1 c s.2.length)))) i = if i = s.2.length then timesB p (invB p ((grp s.1 (findN s.1 c s.2.length)).getD c 0)) (grp s.1 (findN s.1 c s.2.length)) else grp s.1 (if i = findN s.1 c s.2.length then s.2.length else i) := by
    intro i hi
    show ((swapB s.1 s.2.length (findN s.1 c s.2.length)).set s.2.length _).getD i [] = _
    rw [getD_set _ _ _ _ _ (by rw [swapB_length]; exact hn)]
    by_cases h1 : i = s.2.length
    · rw [if_pos h1, if_pos h1]
    · rw [if_neg h1, if_neg h1]
      have := swapB_grp hn ha i
      unfold grp at this
      rw [this, if_neg h1]
      split <;> rfl
  have hlen : ((swapB s.1 s.2.length (findN s.1 c s.2.length)).set s.2.length (timesB p (invB p ((grp s.1 (findN s.1 c s.2.length)).getD c 0)) (grp s.1 (findN s.1 c s.2.length)))).length = s.1.length := by rw [List.length_set, swapB_length]
  have hrow_n := hsw s.2.length hn
  rw [if_pos rfl] at hrow_n
  refine ⟨⟨by rw [elimB_length, hlen], fun j => ?_, fun i hi hne j => ?_⟩, rfl, hle⟩
  · rw [elimB_grp (by rw [hlen]; exact hn), if_pos rfl, hrow_n]
    exact elm_times
  · have hi2 : (if i = findN s.1 c s.2.length then s.2.length else i) < s.1.length := by split <;> omega
    have e1 := hsw i hi
    rw [if_neg hne] at e1
    rw [elimB_grp (by rw [hlen]; exact hi), if_neg hne, elimB_grp (by rw [hlen]; exact hn), if_pos rfl, hrow_n, e1]
    exact elm_add (hmA _ hi2).1 (timesB_row hp hra).1

end Go.Proofs.Ytjpbemomocccaaa.P

namespace Go.Proofs.Ytjpbemomocccaaa.P
open Go.RowKit Go.Proofs.YtjpbemomocccaaaW.PrintWords Go.Proofs.YtjpbemomocccaaaW.PrintLast Go.Proofs.YtjpbemomocccaaaW.PrintMore
attribute [local go_sem] max2_int min2_int max_two min_two max_three min_three max_four min_four
set_option linter.unusedVariables false
set_option linter.unusedSimpArgs false

/-! ### spec_l03Asked: function 72 -/
end Go.Proofs.Ytjpbemomocccaaa.P

namespace Go.Proofs.Ytjpbemomocccaaa.P
open Go.RowKit Go.Proofs.YtjpbemomocccaaaW.PrintWords Go.Proofs.YtjpbemomocccaaaW.PrintLast Go.Proofs.YtjpbemomocccaaaW.PrintMore
attribute [local go_sem] max2_int min2_int max_two min_two max_three min_three max_four min_four
set_option linter.unusedVariables false
set_option linter.unusedSimpArgs false

/-! ### spec_l03Beside: function 61 -/
end Go.Proofs.Ytjpbemomocccaaa.P
