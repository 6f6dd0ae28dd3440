/- For all arguments the program's PutGate and the reference's answer alike, the arguments stay, and the result is memory of its own. This text: part 4 of what it rests on: functions of the translation as plain Lean functions, and that the machine's calls come to their answers. -/
import Derived.Test.YtjnobnmjhpmpfaaCFnExactPutGatec
import Derived.ChangeArms
import Derived.Deep.Cut
import Derived.Deep.Slices
import Derived.Shelf.Abstract
import Derived.WideShapes
namespace Go.Proofs.Ytjnobnmjhpmpfaa.P
open Go.RowKit Go.Proofs.YtjnobnmjhpmpfaaW.PrintWords Go.Proofs.YtjnobnmjhpmpfaaW.PrintLast Go.Proofs.YtjnobnmjhpmpfaaW.PrintMore
attribute [local go_sem] max2_int min2_int max_two min_two max_three min_three max_four min_four
set_option linter.unusedVariables false
set_option linter.unusedSimpArgs false

/-! ### laws_FnExactPutGate: function 10 (the law's walk, by a program of this session) -/
set_option maxHeartbeats 8000000 in
set_option maxRecDepth 100000 in
theorem laws_FnExactPutGate.way0 (k : Nat) (a0 : Int) (a1_0 : Int) (a1_1 : Int) (A1_2 : Option Addr) (c1_2 : Nat) (l1_2 : List (S24)) (a2 : Int) (a3_0 : Int) (a3_1 : Int) (A3_2 : Option Addr) (c3_2 : Nat) (l3_2 : List (S24)) (s3 : Int) (w : World) (hr1_2 : Kd.C k24 w A1_2 l1_2.length l1_2) (hc1_2 : l1_2.length ≤ c1_2) (hr3_2 : Kd.C k24 w A3_2 l3_2.length l3_2) (hc3_2 : l3_2.length ≤ c3_2) (A4 : laws_szGate.f k a1_0 a1_1 l1_2 1048576 = some s3) (t14 : decide (s3 < 0) = true) :
    Calls Try.prog 10 #[.int .i64 a0, .agg #[.int .i64 a1_0, .int .i64 a1_1, .slice A1_2 l1_2.length c1_2], .int .i64 a2, .agg #[.int .i64 a3_0, .int .i64 a3_1, .slice A3_2 l3_2.length c3_2]] w fun e w' => e = .returned (.bool true) ∧ Below w.heap.size w w' := by
  have hu24 := Try.underlying24
  have HR1_2 := Aside0.mk hr1_2
  have HC1_2 := Aside0.mk hc1_2
  clear hr1_2 hc1_2
  have HR3_2 := Aside0.mk hr3_2
  have HC3_2 := Aside0.mk hc3_2
  clear hr3_2 hc3_2
  have HB := Aside0.mk (Below.refl w.heap.size w)
  replace A4 := Aside0.mk A4
  go_enter Try.func10, Try.ntmps10
  go_wp2_with (first | ((with_reducible refine gate_callee (f := 12) rfl ?_); refine goesL_ (some 23) rfl rfl Try.func12 (by kernel_rfl) rfl #[.agg #[.int .i64 a1_0, .int .i64 a1_1, .slice A1_2 l1_2.length c1_2], .int .i64 1048576] rfl (by (try simp only [List.map_toArray, List.map_cons, List.map_nil]); first | done | rfl | (simp only [List.length_drop, List.length_take]; rfl)) ?_; (with_reducible refine (laws_szGate.calls k a1_0 a1_1 _ _ l1_2 1048576 s3 _ ?side1 ?side2 A4.out).mono ?_); (case side1 => exact Kd.C_below HR1_2.out (by repeat (first | (with_reducible first | exact HB.out | apply below_alloc | apply pw_below_drewN | apply below_drew1) | exact HB.out))); (case side2 => exact HC1_2.out); rintro e w1 ⟨rfl, hb⟩; refine ⟨_, rfl, ?_⟩; have n1_ := Aside0.mk (blk_below (g := w.heap.size) (o := .cells #[.int .i64 a1_0, .int .i64 a1_1, .slice A1_2 l1_2.length c1_2] 24 (0, 0)) (by repeat (first | exact blk_new_at (by simp) | (with_reducible refine blk_drewN ?_ _) | (with_reducible refine blk_drew ?_) | (with_reducible refine blk_alloc ?_ _))) hb); have n2_ := Aside0.mk (blk_below (g := w.heap.size + 1) (o := .cells #[.int .i64 a3_0, .int .i64 a3_1, .slice A3_2 l3_2.length c3_2] 24 (0, 0)) (by repeat (first | exact blk_new_at (by simp) | (with_reducible refine blk_drewN ?_ _) | (with_reducible refine blk_drew ?_) | (with_reducible refine blk_alloc ?_ _))) hb); have n3_ := Aside0.mk (below_step (by repeat (first | (with_reducible first | exact HB.out | apply below_alloc | apply pw_below_drewN | apply below_drew1) | exact HB.out)) hb); have C5 : Aside0 (w.heap.size + 2 ≤ w1.heap.size) := ⟨by have h_ := hb.size; (try simp at h_); omega⟩; have CC := Aside0.mk C5.out; clear HB; have HX1 := n1_; clear n1_; have HX2 := n2_; clear n2_; have HB := n3_; clear n3_; (try clear hb); have hl6 : w.heap.size < w1.heap.size := blk_lt HX1.out; have hx7 : w1.cell? ⟨w.heap.size, 0, none⟩ = some (.int .i64 a1_0) := (blk_cell HX1.out 0).trans rfl; have hx8 : w1.cell? ⟨w.heap.size, 1, none⟩ = some (.int .i64 a1_1) := (blk_cell HX1.out 1).trans rfl; have hx9 : w1.cell? ⟨w.heap.size, 2, none⟩ = some (.slice A1_2 l1_2.length c1_2) := (blk_cell HX1.out 2).trans rfl; have hl10 : w.heap.size + 1 < w1.heap.size := blk_lt HX2.out; have hx11 : w1.cell? ⟨w.heap.size + 1, 0, none⟩ = some (.int .i64 a3_0) := (blk_cell HX2.out 0).trans rfl; have hx12 : w1.cell? ⟨w.heap.size + 1, 1, none⟩ = some (.int .i64 a3_1) := (blk_cell HX2.out 1).trans rfl; have hx13 : w1.cell? ⟨w.heap.size + 1, 2, none⟩ = some (.slice A3_2 l3_2.length c3_2) := (blk_cell HX2.out 2).trans rfl))
  go_ret
  exact ⟨rfl, by repeat (first | (with_reducible first | exact HB.out | apply below_alloc | apply pw_below_drewN | apply below_drew1) | exact HB.out)⟩
set_option maxHeartbeats 8000000 in
set_option maxRecDepth 100000 in
theorem laws_FnExactPutGate.way1 (k : Nat) (a0 : Int) (a1_0 : Int) (a1_1 : Int) (A1_2 : Option Addr) (c1_2 : Nat) (l1_2 : List (S24)) (a2 : Int) (a3_0 : Int) (a3_1 : Int) (A3_2 : Option Addr) (c3_2 : Nat) (l3_2 : List (S24)) (s3 : Int) (s15 : Int) (w : World) (hr1_2 : Kd.C k24 w A1_2 l1_2.length l1_2) (hc1_2 : l1_2.length ≤ c1_2) (hr3_2 : Kd.C k24 w A3_2 l3_2.length l3_2) (hc3_2 : l3_2.length ≤ c3_2) (A4 : laws_szGate.f k a1_0 a1_1 l1_2 1048576 = some s3) (t14 : decide (s3 < 0) = false) (A16 : laws_szGate.f k a3_0 a3_1 l3_2 s3 = some s15) (t26 : decide (s15 < 0) = true) :
    Calls Try.prog 10 #[.int .i64 a0, .agg #[.int .i64 a1_0, .int .i64 a1_1, .slice A1_2 l1_2.length c1_2], .int .i64 a2, .agg #[.int .i64 a3_0, .int .i64 a3_1, .slice A3_2 l3_2.length c3_2]] w fun e w' => e = .returned (.bool true) ∧ Below w.heap.size w w' := by
  have hu24 := Try.underlying24
  have HR1_2 := Aside0.mk hr1_2
  have HC1_2 := Aside0.mk hc1_2
  clear hr1_2 hc1_2
  have HR3_2 := Aside0.mk hr3_2
  have HC3_2 := Aside0.mk hc3_2
  clear hr3_2 hc3_2
  have HB := Aside0.mk (Below.refl w.heap.size w)
  replace A4 := Aside0.mk A4
  replace A16 := Aside0.mk A16
  go_enter Try.func10, Try.ntmps10
  go_wp2_with (first | ((with_reducible refine gate_callee (f := 12) rfl ?_); refine goesL_ (some 23) rfl rfl Try.func12 (by kernel_rfl) rfl #[.agg #[.int .i64 a1_0, .int .i64 a1_1, .slice A1_2 l1_2.length c1_2], .int .i64 1048576] rfl (by (try simp only [List.map_toArray, List.map_cons, List.map_nil]); first | done | rfl | (simp only [List.length_drop, List.length_take]; rfl)) ?_; (with_reducible refine (laws_szGate.calls k a1_0 a1_1 _ _ l1_2 1048576 s3 _ ?side1 ?side2 A4.out).mono ?_); (case side1 => exact Kd.C_below HR1_2.out (by repeat (first | (with_reducible first | exact HB.out | apply below_alloc | apply pw_below_drewN | apply below_drew1) | exact HB.out))); (case side2 => exact HC1_2.out); rintro e w1 ⟨rfl, hb⟩; refine ⟨_, rfl, ?_⟩; have n1_ := Aside0.mk (blk_below (g := w.heap.size) (o := .cells #[.int .i64 a1_0, .int .i64 a1_1, .slice A1_2 l1_2.length c1_2] 24 (0, 0)) (by repeat (first | exact blk_new_at (by simp) | (with_reducible refine blk_drewN ?_ _) | (with_reducible refine blk_drew ?_) | (with_reducible refine blk_alloc ?_ _))) hb); have n2_ := Aside0.mk (blk_below (g := w.heap.size + 1) (o := .cells #[.int .i64 a3_0, .int .i64 a3_1, .slice A3_2 l3_2.length c3_2] 24 (0, 0)) (by repeat (first | exact blk_new_at (by simp) | (with_reducible refine blk_drewN ?_ _) | (with_reducible refine blk_drew ?_) | (with_reducible refine blk_alloc ?_ _))) hb); have n3_ := Aside0.mk (below_step (by repeat (first | (with_reducible first | exact HB.out | apply below_alloc | apply pw_below_drewN | apply below_drew1) | exact HB.out)) hb); have C5 : Aside0 (w.heap.size + 2 ≤ w1.heap.size) := ⟨by have h_ := hb.size; (try simp at h_); omega⟩; have CC := Aside0.mk C5.out; clear HB; have HX1 := n1_; clear n1_; have HX2 := n2_; clear n2_; have HB := n3_; clear n3_; (try clear hb); have hl6 : w.heap.size < w1.heap.size := blk_lt HX1.out; have hx7 : w1.cell? ⟨w.heap.size, 0, none⟩ = some (.int .i64 a1_0) := (blk_cell HX1.out 0).trans rfl; have hx8 : w1.cell? ⟨w.heap.size, 1, none⟩ = some (.int .i64 a1_1) := (blk_cell HX1.out 1).trans rfl; have hx9 : w1.cell? ⟨w.heap.size, 2, none⟩ = some (.slice A1_2 l1_2.length c1_2) := (blk_cell HX1.out 2).trans rfl; have hl10 : w.heap.size + 1 < w1.heap.size := blk_lt HX2.out; have hx11 : w1.cell? ⟨w.heap.size + 1, 0, none⟩ = some (.int .i64 a3_0) := (blk_cell HX2.out 0).trans rfl; have hx12 : w1.cell? ⟨w.heap.size + 1, 1, none⟩ = some (.int .i64 a3_1) := (blk_cell HX2.out 1).trans rfl; have hx13 : w1.cell? ⟨w.heap.size + 1, 2, none⟩ = some (.slice A3_2 l3_2.length c3_2) := (blk_cell HX2.out 2).trans rfl) | ((with_reducible refine gate_callee (f := 12) rfl ?_); refine goesL_ (some 28) rfl rfl Try.func12 (by kernel_rfl) rfl #[.agg #[.int .i64 a3_0, .int .i64 a3_1, .slice A3_2 l3_2.length c3_2], .int .i64 s3] rfl (by (try simp only [List.map_toArray, List.map_cons, List.map_nil]); first | done | rfl | (simp only [List.length_drop, List.length_take]; rfl)) ?_; (with_reducible refine (laws_szGate.calls k a3_0 a3_1 _ _ l3_2 s3 s15 _ ?side1 ?side2 A16.out).mono ?_); (case side1 => exact Kd.C_below HR3_2.out (by repeat (first | (with_reducible first | exact HB.out | apply below_alloc | apply pw_below_drewN | apply below_drew1) | exact HB.out))); (case side2 => exact HC3_2.out); rintro e w2 ⟨rfl, hb⟩; refine ⟨_, rfl, ?_⟩; have n1_ := Aside0.mk (blk_below (g := w.heap.size) (o := .cells #[.int .i64 a1_0, .int .i64 a1_1, .slice A1_2 l1_2.length c1_2] 24 (0, 0)) (by (with_reducible repeat (first | refine blk_drewN ?_ _ | refine blk_drew ?_ | refine blk_alloc ?_ _)); exact HX1.out) hb); have n2_ := Aside0.mk (blk_below (g := w.heap.size + 1) (o := .cells #[.int .i64 a3_0, .int .i64 a3_1, .slice A3_2 l3_2.length c3_2] 24 (0, 0)) (by (with_reducible repeat (first | refine blk_drewN ?_ _ | refine blk_drew ?_ | refine blk_alloc ?_ _)); exact HX2.out) hb); have n3_ := Aside0.mk (below_step (by repeat (first | (with_reducible first | exact HB.out | apply below_alloc | apply pw_below_drewN | apply below_drew1) | exact HB.out)) hb); have C17 : Aside0 (w1.heap.size ≤ w2.heap.size) := ⟨by have h_ := hb.size; (try simp at h_); omega⟩; have CCn_ := Aside0.mk (And.intro CC.out C17.out); clear CC; have CC := CCn_; clear CCn_; clear HX1; clear HX2; clear HB; clear hl6; clear hx7; clear hx8; clear hx9; clear hl10; clear hx11; clear hx12; clear hx13; have HX1 := n1_; clear n1_; have HX2 := n2_; clear n2_; have HB := n3_; clear n3_; (try clear hb); have hl18 : w.heap.size < w2.heap.size := blk_lt HX1.out; have hx19 : w2.cell? ⟨w.heap.size, 0, none⟩ = some (.int .i64 a1_0) := (blk_cell HX1.out 0).trans rfl; have hx20 : w2.cell? ⟨w.heap.size, 1, none⟩ = some (.int .i64 a1_1) := (blk_cell HX1.out 1).trans rfl; have hx21 : w2.cell? ⟨w.heap.size, 2, none⟩ = some (.slice A1_2 l1_2.length c1_2) := (blk_cell HX1.out 2).trans rfl; have hl22 : w.heap.size + 1 < w2.heap.size := blk_lt HX2.out; have hx23 : w2.cell? ⟨w.heap.size + 1, 0, none⟩ = some (.int .i64 a3_0) := (blk_cell HX2.out 0).trans rfl; have hx24 : w2.cell? ⟨w.heap.size + 1, 1, none⟩ = some (.int .i64 a3_1) := (blk_cell HX2.out 1).trans rfl; have hx25 : w2.cell? ⟨w.heap.size + 1, 2, none⟩ = some (.slice A3_2 l3_2.length c3_2) := (blk_cell HX2.out 2).trans rfl))
  go_ret
  exact ⟨rfl, by repeat (first | (with_reducible first | exact HB.out | apply below_alloc | apply pw_below_drewN | apply below_drew1) | exact HB.out)⟩
set_option maxHeartbeats 8000000 in
set_option maxRecDepth 100000 in
theorem laws_FnExactPutGate.way2 (k : Nat) (a0 : Int) (a1_0 : Int) (a1_1 : Int) (A1_2 : Option Addr) (c1_2 : Nat) (l1_2 : List (S24)) (a2 : Int) (a3_0 : Int) (a3_1 : Int) (A3_2 : Option Addr) (c3_2 : Nat) (l3_2 : List (S24)) (s3 : Int) (s15 : Int) (r51 : Int) (r52 : Int) (r53 : List (S29)) (r54 : Int) (m280 : Int) (ys281 : List (S29)) (m308 : Int) (ys309 : List (S29)) (m363 : Int) (ys364 : List (S29)) (w : World) (hr1_2 : Kd.C k24 w A1_2 l1_2.length l1_2) (hc1_2 : l1_2.length ≤ c1_2) (hr3_2 : Kd.C k24 w A3_2 l3_2.length l3_2) (hc3_2 : l3_2.length ≤ c3_2) (A4 : laws_szGate.f k a1_0 a1_1 l1_2 1048576 = some s3) (t14 : decide (s3 < 0) = false) (A16 : laws_szGate.f k a3_0 a3_1 l3_2 s3 = some s15) (t26 : decide (s15 < 0) = false) (A27 : laws_toGate.f k a1_0 a1_1 l1_2 = some (a1_0, a1_1, (cvL l1_2))) (A39 : laws_toGate.f k a3_0 a3_1 l3_2 = some (a3_0, a3_1, (cvL l3_2))) (A55 : spec_PutGate.f k a0 a1_0 a1_1 (cvL l1_2) a2 a3_0 a3_1 (cvL l3_2) = some (r51, r52, r53, r54)) (A83 : laws_toGate.f k a1_0 a1_1 l1_2 = some (a1_0, a1_1, (cvL l1_2))) (A100 : laws_toGate.f k a3_0 a3_1 l3_2 = some (a3_0, a3_1, (cvL l3_2))) (A121 : impl_PutGate.f k a0 a1_0 a1_1 (cvL l1_2) a2 a3_0 a3_1 (cvL l3_2) = some (r51, r52, r53, r54)) (A146 : laws_eqGate.f k r51 r52 r53 r51 r52 r53 = some true) (A172 : laws_toGate.f k a1_0 a1_1 l1_2 = some (a1_0, a1_1, (cvL l1_2))) (A200 : laws_eqGate.f k a1_0 a1_1 (cvL l1_2) a1_0 a1_1 (cvL l1_2) = some true) (A226 : laws_toGate.f k a3_0 a3_1 l3_2 = some (a3_0, a3_1, (cvL l3_2))) (A254 : laws_eqGate.f k a3_0 a3_1 (cvL l3_2) a3_0 a3_1 (cvL l3_2) = some true) (A282 : laws_markGate.f k a1_0 a1_1 (cvL l1_2) 1 = some (m280, ys281)) (A310 : laws_markGate.f k a3_0 a3_1 (cvL l3_2) m280 = some (m308, ys309)) (t336 : decide (m308 < 0) = false) (A337 : laws_eqGate.f k r51 r52 r53 r51 r52 r53 = some true) (A365 : laws_markGate.f k r51 r52 r53 1 = some (m363, ys364)) (A391 : laws_heldGate.f k r51 r52 ys364 1 = some m363) (t417 : decide (m363 < 0) = false) (A418 : laws_toGate.f k a1_0 a1_1 l1_2 = some (a1_0, a1_1, (cvL l1_2))) (A446 : laws_toGate.f k a3_0 a3_1 l3_2 = some (a3_0, a3_1, (cvL l3_2))) (A474 : impl_PutGate.f k a0 a1_0 a1_1 (cvL l1_2) a2 a3_0 a3_1 (cvL l3_2) = some (r51, r52, r53, r54)) (A534 : laws_eqGate.f k r51 r52 r53 r51 r52 r53 = some true) (A564 : laws_heldGate.f k r51 r52 ys364 1 = some m363) (t594 : decide (m363 < 0) = false) :
    Calls Try.prog 10 #[.int .i64 a0, .agg #[.int .i64 a1_0, .int .i64 a1_1, .slice A1_2 l1_2.length c1_2], .int .i64 a2, .agg #[.int .i64 a3_0, .int .i64 a3_1, .slice A3_2 l3_2.length c3_2]] w fun e w' => e = .returned (.bool true) ∧ Below w.heap.size w w' := by
  have hu24 := Try.underlying24
  have hu29 := Try.underlying29
  have HR1_2 := Aside0.mk hr1_2
  have HC1_2 := Aside0.mk hc1_2
  clear hr1_2 hc1_2
  have HR3_2 := Aside0.mk hr3_2
  have HC3_2 := Aside0.mk hc3_2
  clear hr3_2 hc3_2
  have HB := Aside0.mk (Below.refl w.heap.size w)
  replace A4 := Aside0.mk A4
  replace A16 := Aside0.mk A16
  replace A27 := Aside0.mk A27
  replace A39 := Aside0.mk A39
  replace A55 := Aside0.mk A55
  replace A83 := Aside0.mk A83
  replace A100 := Aside0.mk A100
  replace A121 := Aside0.mk A121
  replace A146 := Aside0.mk A146
  replace A172 := Aside0.mk A172
  replace A200 := Aside0.mk A200
  replace A226 := Aside0.mk A226
  replace A254 := Aside0.mk A254
  replace A282 := Aside0.mk A282
  replace A310 := Aside0.mk A310
  replace A337 := Aside0.mk A337
  replace A365 := Aside0.mk A365
  replace A391 := Aside0.mk A391
  replace A418 := Aside0.mk A418
  replace A446 := Aside0.mk A446
  replace A474 := Aside0.mk A474
  replace A534 := Aside0.mk A534
  replace A564 := Aside0.mk A564
  go_enter Try.func10, Try.ntmps10
  go_wp2_with (first | ((with_reducible refine gate_callee (f := 12) rfl ?_); refine goesL_ (some 23) rfl rfl Try.func12 (by kernel_rfl) rfl #[.agg #[.int .i64 a1_0, .int .i64 a1_1, .slice A1_2 l1_2.length c1_2], .int .i64 1048576] rfl (by (try simp only [List.map_toArray, List.map_cons, List.map_nil]); first | done | rfl | (simp only [List.length_drop, List.length_take]; rfl)) ?_; (with_reducible refine (laws_szGate.calls k a1_0 a1_1 _ _ l1_2 1048576 s3 _ ?side1 ?side2 A4.out).mono ?_); (case side1 => exact Kd.C_below HR1_2.out (by repeat (first | (with_reducible first | exact HB.out | apply below_alloc | apply pw_below_drewN | apply below_drew1) | exact HB.out))); (case side2 => exact HC1_2.out); rintro e w1 ⟨rfl, hb⟩; refine ⟨_, rfl, ?_⟩; have n1_ := Aside0.mk (blk_below (g := w.heap.size) (o := .cells #[.int .i64 a1_0, .int .i64 a1_1, .slice A1_2 l1_2.length c1_2] 24 (0, 0)) (by repeat (first | exact blk_new_at (by simp) | (with_reducible refine blk_drewN ?_ _) | (with_reducible refine blk_drew ?_) | (with_reducible refine blk_alloc ?_ _))) hb); have n2_ := Aside0.mk (blk_below (g := w.heap.size + 1) (o := .cells #[.int .i64 a3_0, .int .i64 a3_1, .slice A3_2 l3_2.length c3_2] 24 (0, 0)) (by repeat (first | exact blk_new_at (by simp) | (with_reducible refine blk_drewN ?_ _) | (with_reducible refine blk_drew ?_) | (with_reducible refine blk_alloc ?_ _))) hb); have n3_ := Aside0.mk (below_step (by repeat (first | (with_reducible first | exact HB.out | apply below_alloc | apply pw_below_drewN | apply below_drew1) | exact HB.out)) hb); have C5 : Aside0 (w.heap.size + 2 ≤ w1.heap.size) := ⟨by have h_ := hb.size; (try simp at h_); omega⟩; have CC := Aside0.mk C5.out; clear HB; have HX1 := n1_; clear n1_; have HX2 := n2_; clear n2_; have HB := n3_; clear n3_; (try clear hb); have hl6 : w.heap.size < w1.heap.size := blk_lt HX1.out; have hx7 : w1.cell? ⟨w.heap.size, 0, none⟩ = some (.int .i64 a1_0) := (blk_cell HX1.out 0).trans rfl; have hx8 : w1.cell? ⟨w.heap.size, 1, none⟩ = some (.int .i64 a1_1) := (blk_cell HX1.out 1).trans rfl; have hx9 : w1.cell? ⟨w.heap.size, 2, none⟩ = some (.slice A1_2 l1_2.length c1_2) := (blk_cell HX1.out 2).trans rfl; have hl10 : w.heap.size + 1 < w1.heap.size := blk_lt HX2.out; have hx11 : w1.cell? ⟨w.heap.size + 1, 0, none⟩ = some (.int .i64 a3_0) := (blk_cell HX2.out 0).trans rfl; have hx12 : w1.cell? ⟨w.heap.size + 1, 1, none⟩ = some (.int .i64 a3_1) := (blk_cell HX2.out 1).trans rfl; have hx13 : w1.cell? ⟨w.heap.size + 1, 2, none⟩ = some (.slice A3_2 l3_2.length c3_2) := (blk_cell HX2.out 2).trans rfl) | ((with_reducible refine gate_callee (f := 12) rfl ?_); refine goesL_ (some 28) rfl rfl Try.func12 (by kernel_rfl) rfl #[.agg #[.int .i64 a3_0, .int .i64 a3_1, .slice A3_2 l3_2.length c3_2], .int .i64 s3] rfl (by (try simp only [List.map_toArray, List.map_cons, List.map_nil]); first | done | rfl | (simp only [List.length_drop, List.length_take]; rfl)) ?_; (with_reducible refine (laws_szGate.calls k a3_0 a3_1 _ _ l3_2 s3 s15 _ ?side1 ?side2 A16.out).mono ?_); (case side1 => exact Kd.C_below HR3_2.out (by repeat (first | (with_reducible first | exact HB.out | apply below_alloc | apply pw_below_drewN | apply below_drew1) | exact HB.out))); (case side2 => exact HC3_2.out); rintro e w2 ⟨rfl, hb⟩; refine ⟨_, rfl, ?_⟩; have n1_ := Aside0.mk (blk_below (g := w.heap.size) (o := .cells #[.int .i64 a1_0, .int .i64 a1_1, .slice A1_2 l1_2.length c1_2] 24 (0, 0)) (by (with_reducible repeat (first | refine blk_drewN ?_ _ | refine blk_drew ?_ | refine blk_alloc ?_ _)); exact HX1.out) hb); have n2_ := Aside0.mk (blk_below (g := w.heap.size + 1) (o := .cells #[.int .i64 a3_0, .int .i64 a3_1, .slice A3_2 l3_2.length c3_2] 24 (0, 0)) (by (with_reducible repeat (first | refine blk_drewN ?_ _ | refine blk_drew ?_ | refine blk_alloc ?_ _)); exact HX2.out) hb); have n3_ := Aside0.mk (below_step (by repeat (first | (with_reducible first | exact HB.out | apply below_alloc | apply pw_below_drewN | apply below_drew1) | exact HB.out)) hb); have C17 : Aside0 (w1.heap.size ≤ w2.heap.size) := ⟨by have h_ := hb.size; (try simp at h_); omega⟩; have CCn_ := Aside0.mk (And.intro CC.out C17.out); clear CC; have CC := CCn_; clear CCn_; clear HX1; clear HX2; clear HB; clear hl6; clear hx7; clear hx8; clear hx9; clear hl10; clear hx11; clear hx12; clear hx13; have HX1 := n1_; clear n1_; have HX2 := n2_; clear n2_; have HB := n3_; clear n3_; (try clear hb); have hl18 : w.heap.size < w2.heap.size := blk_lt HX1.out; have hx19 : w2.cell? ⟨w.heap.size, 0, none⟩ = some (.int .i64 a1_0) := (blk_cell HX1.out 0).trans rfl; have hx20 : w2.cell? ⟨w.heap.size, 1, none⟩ = some (.int .i64 a1_1) := (blk_cell HX1.out 1).trans rfl; have hx21 : w2.cell? ⟨w.heap.size, 2, none⟩ = some (.slice A1_2 l1_2.length c1_2) := (blk_cell HX1.out 2).trans rfl; have hl22 : w.heap.size + 1 < w2.heap.size := blk_lt HX2.out; have hx23 : w2.cell? ⟨w.heap.size + 1, 0, none⟩ = some (.int .i64 a3_0) := (blk_cell HX2.out 0).trans rfl; have hx24 : w2.cell? ⟨w.heap.size + 1, 1, none⟩ = some (.int .i64 a3_1) := (blk_cell HX2.out 1).trans rfl; have hx25 : w2.cell? ⟨w.heap.size + 1, 2, none⟩ = some (.slice A3_2 l3_2.length c3_2) := (blk_cell HX2.out 2).trans rfl))
  go_cut [10, 11] from 31 (fun s10_ s11_ wx => ∃ (gC68 : Nat) (Az58 : Option Addr) (cz58 : Nat), s10_ = .pointer (some ⟨gC68, 0, none⟩) ∧ s11_ = .int .i64 r54 ∧ Aside0 (Kd.S kG 29 wx w.heap.size (fun k_ => w2.heap.size ≤ k_ ∧ k_ < wx.heap.size) (.slice Az58 r53.length cz58) r53) ∧ Aside0 (wx.heap[gC68]? = some (.cells #[.int .i64 r51, .int .i64 r52, .slice Az58 r53.length cz58] 29 (0, 0))) ∧ Aside0 (wx.heap[w.heap.size]? = some (.cells #[.int .i64 a1_0, .int .i64 a1_1, .slice A1_2 l1_2.length c1_2] 24 (0, 0))) ∧ Aside0 (wx.heap[w.heap.size + 1]? = some (.cells #[.int .i64 a3_0, .int .i64 a3_1, .slice A3_2 l3_2.length c3_2] 24 (0, 0))) ∧ Aside0 (Below w.heap.size w wx) ∧ Aside0 (w2.heap.size ≤ wx.heap.size))
  case first =>
    go_region_held3 (fun w' => w'.cell? ⟨w.heap.size, 0, none⟩ = some (.int .i64 a1_0) ∧ w'.cell? ⟨w.heap.size, 1, none⟩ = some (.int .i64 a1_1) ∧ w'.cell? ⟨w.heap.size, 2, none⟩ = some (.slice A1_2 l1_2.length c1_2) ∧ w'.cell? ⟨w.heap.size + 1, 0, none⟩ = some (.int .i64 a3_0) ∧ w'.cell? ⟨w.heap.size + 1, 1, none⟩ = some (.int .i64 a3_1) ∧ w'.cell? ⟨w.heap.size + 1, 2, none⟩ = some (.slice A3_2 l3_2.length c3_2)) (first | ((repeat' apply And.intro) <;> assumption) | exact ⟨(cell_far3 (a := ⟨w.heap.size, 0, none⟩) (blk_ne HX1.out hz_.out (by decide))).trans (by assumption), (cell_far3 (a := ⟨w.heap.size, 1, none⟩) (blk_ne HX1.out hz_.out (by decide))).trans (by assumption), (cell_far3 (a := ⟨w.heap.size, 2, none⟩) (blk_ne HX1.out hz_.out (by decide))).trans (by assumption), (cell_far3 (a := ⟨w.heap.size + 1, 0, none⟩) (blk_ne HX2.out hz_.out (by decide))).trans (by assumption), (cell_far3 (a := ⟨w.heap.size + 1, 1, none⟩) (blk_ne HX2.out hz_.out (by decide))).trans (by assumption), (cell_far3 (a := ⟨w.heap.size + 1, 2, none⟩) (blk_ne HX2.out hz_.out (by decide))).trans (by assumption)⟩ | go_keep) (first | (go_at_call 14; (with_reducible refine (laws_toGate.calls k a1_0 a1_1 _ _ l1_2 a1_0 a1_1 (cvL l1_2) _ ?side1 ?side2 A27.out).mono ?_); (case side1 => exact Kd.C_below HR1_2.out (by repeat (first | (with_reducible first | exact HB.out | apply below_alloc | apply pw_below_drewN | apply below_drew1) | exact HB.out))); (case side2 => exact HC1_2.out); rintro e w3 ⟨v100_, rfl, ho0_, hb⟩; (first | have hoz0_ := G_apart (g := w2.heap.size) (o := .cells #[(.int .i64 0 : Value), (.int .i64 0 : Value), (.slice none 0 0 : Value)] 29 (0, 0)) (by exact blk_new_at (by simp)) ho0_ | have hoz0_ := G_apart hz_.out ho0_ | skip); (first | (have hzn_ := Aside0.mk (blk_below (g := w2.heap.size) (o := .cells #[(.int .i64 0 : Value), (.int .i64 0 : Value), (.slice none 0 0 : Value)] 29 (0, 0)) (by exact blk_new_at (by simp)) hb)) | (have hzn_ := Aside0.mk (blk_below (o := .cells #[(.int .i64 0 : Value), (.int .i64 0 : Value), (.slice none 0 0 : Value)] 29 (0, 0)) hz_.out hb); clear hz_) | skip); (try (have hz_ := hzn_; clear hzn_)); (try have hzc0_ : w3.cell? ⟨_, 0, none⟩ = some ((.int .i64 0 : Value)) := (blk_cell hz_.out 0).trans rfl); (try have hzf0_ := blk_frozen hz_.out 0); (try have hzc1_ : w3.cell? ⟨_, 1, none⟩ = some ((.int .i64 0 : Value)) := (blk_cell hz_.out 1).trans rfl); (try have hzf1_ := blk_frozen hz_.out 1); (try have hzc2_ : w3.cell? ⟨_, 2, none⟩ = some ((.slice none 0 0 : Value)) := (blk_cell hz_.out 2).trans rfl); (try have hzf2_ := blk_frozen hz_.out 2); (try have hzl_ := blk_lt hz_.out); have n1_ := Aside0.mk (blk_below (g := w.heap.size) (o := .cells #[.int .i64 a1_0, .int .i64 a1_1, .slice A1_2 l1_2.length c1_2] 24 (0, 0)) (by (with_reducible repeat (first | refine blk_drewN ?_ _ | refine blk_drew ?_ | refine blk_alloc ?_ _)); exact HX1.out) hb); have n2_ := Aside0.mk (blk_below (g := w.heap.size + 1) (o := .cells #[.int .i64 a3_0, .int .i64 a3_1, .slice A3_2 l3_2.length c3_2] 24 (0, 0)) (by (with_reducible repeat (first | refine blk_drewN ?_ _ | refine blk_drew ?_ | refine blk_alloc ?_ _)); exact HX2.out) hb); have n3_ := Aside0.mk (below_step (by repeat (first | (with_reducible first | exact HB.out | apply below_alloc | apply pw_below_drewN | apply below_drew1) | exact HB.out)) hb); have C28 : Aside0 (w2.heap.size ≤ w3.heap.size) := ⟨by have h_ := hb.size; (try simp at h_); omega⟩; have CCn_ := Aside0.mk (And.intro CC.out C28.out); clear CC; have CC := CCn_; clear CCn_; clear HX1; clear HX2; clear HB; clear hl18; clear hx19; clear hx20; clear hx21; clear hl22; clear hx23; clear hx24; clear hx25; have HX1 := n1_; clear n1_; have HX2 := n2_; clear n2_; have HB := n3_; clear n3_; have HO29 := Aside0.mk (Kd.G_lower (base' := w.heap.size) (Kd.G_mono (Kd.G_bound ho0_) (ok' := fun k_ => w2.heap.size ≤ k_ ∧ k_ < w3.heap.size) (fun k_ hk_ => ⟨by have h_ := hk_.2.1; (try simp at h_); omega, hk_.2.2.1⟩)) (by have := CC.out; first | omega | (simp; done) | (simp; omega))); obtain ⟨Az30, cz30, ez30⟩ := Kd.G_slice HO29.out; subst ez30; (try have HO29z := Aside0.mk (G_bound2 (Pq := fun k_ => w2.heap.size ≤ k_ ∧ k_ < w3.heap.size) (base' := w.heap.size) hoz0_ (fun k_ h1_ h2_ => ⟨by (try simp at h1_); omega, h2_⟩) (by have := CC.out; first | omega | (simp; done) | (simp; omega)))); (try clear hoz0_); (try clear hb); (try clear ho0_); have hl31 : w.heap.size < w3.heap.size := blk_lt HX1.out; have hx32 : w3.cell? ⟨w.heap.size, 0, none⟩ = some (.int .i64 a1_0) := (blk_cell HX1.out 0).trans rfl; have hx33 : w3.cell? ⟨w.heap.size, 1, none⟩ = some (.int .i64 a1_1) := (blk_cell HX1.out 1).trans rfl; have hx34 : w3.cell? ⟨w.heap.size, 2, none⟩ = some (.slice A1_2 l1_2.length c1_2) := (blk_cell HX1.out 2).trans rfl; have hl35 : w.heap.size + 1 < w3.heap.size := blk_lt HX2.out; have hx36 : w3.cell? ⟨w.heap.size + 1, 0, none⟩ = some (.int .i64 a3_0) := (blk_cell HX2.out 0).trans rfl; have hx37 : w3.cell? ⟨w.heap.size + 1, 1, none⟩ = some (.int .i64 a3_1) := (blk_cell HX2.out 1).trans rfl; have hx38 : w3.cell? ⟨w.heap.size + 1, 2, none⟩ = some (.slice A3_2 l3_2.length c3_2) := (blk_cell HX2.out 2).trans rfl) | (go_at_call 14; (with_reducible refine (laws_toGate.calls k a3_0 a3_1 _ _ l3_2 a3_0 a3_1 (cvL l3_2) _ ?side1 ?side2 A39.out).mono ?_); (case side1 => exact Kd.C_below HR3_2.out (by repeat (first | (with_reducible first | exact HB.out | apply below_alloc | apply pw_below_drewN | apply below_drew1) | exact HB.out))); (case side2 => exact HC3_2.out); rintro e w4 ⟨v100_, rfl, ho0_, hb⟩; (first | have hoz0_ := G_apart (g := w3.heap.size) (o := .cells #[(.int .i64 0 : Value), (.int .i64 0 : Value), (.slice none 0 0 : Value)] 29 (0, 0)) (by exact blk_new_at (by simp)) ho0_ | have hoz0_ := G_apart hz_.out ho0_ | skip); have n1_ := Aside0.mk (Kd.G_below (by (with_reducible repeat (first | apply Kd.G_alloc | apply Kd.G_drewN | apply Kd.G_drew)); exact HO29.out) hb); (try clear hzc0_); (try clear hzf0_); (try clear hzc1_); (try clear hzf1_); (try clear hzc2_); (try clear hzf2_); (try clear hzl_); (first | (have hzn_ := Aside0.mk (blk_below (g := w3.heap.size) (o := .cells #[(.int .i64 0 : Value), (.int .i64 0 : Value), (.slice none 0 0 : Value)] 29 (0, 0)) (by exact blk_new_at (by simp)) hb)) | (have hzn_ := Aside0.mk (blk_below (o := .cells #[(.int .i64 0 : Value), (.int .i64 0 : Value), (.slice none 0 0 : Value)] 29 (0, 0)) hz_.out hb); clear hz_) | skip); (try (have hz_ := hzn_; clear hzn_)); (try have hzc0_ : w4.cell? ⟨_, 0, none⟩ = some ((.int .i64 0 : Value)) := (blk_cell hz_.out 0).trans rfl); (try have hzf0_ := blk_frozen hz_.out 0); (try have hzc1_ : w4.cell? ⟨_, 1, none⟩ = some ((.int .i64 0 : Value)) := (blk_cell hz_.out 1).trans rfl); (try have hzf1_ := blk_frozen hz_.out 1); (try have hzc2_ : w4.cell? ⟨_, 2, none⟩ = some ((.slice none 0 0 : Value)) := (blk_cell hz_.out 2).trans rfl); (try have hzf2_ := blk_frozen hz_.out 2); (try have hzl_ := blk_lt hz_.out); have n2_ := Aside0.mk (blk_below (g := w.heap.size) (o := .cells #[.int .i64 a1_0, .int .i64 a1_1, .slice A1_2 l1_2.length c1_2] 24 (0, 0)) (by (with_reducible repeat (first | refine blk_drewN ?_ _ | refine blk_drew ?_ | refine blk_alloc ?_ _)); exact HX1.out) hb); have n3_ := Aside0.mk (blk_below (g := w.heap.size + 1) (o := .cells #[.int .i64 a3_0, .int .i64 a3_1, .slice A3_2 l3_2.length c3_2] 24 (0, 0)) (by (with_reducible repeat (first | refine blk_drewN ?_ _ | refine blk_drew ?_ | refine blk_alloc ?_ _)); exact HX2.out) hb); have n4_ := Aside0.mk (below_step (by repeat (first | (with_reducible first | exact HB.out | apply below_alloc | apply pw_below_drewN | apply below_drew1) | exact HB.out)) hb); have C40 : Aside0 (w3.heap.size ≤ w4.heap.size) := ⟨by have h_ := hb.size; (try simp at h_); omega⟩; have CCn_ := Aside0.mk (And.intro CC.out C40.out); clear CC; have CC := CCn_; clear CCn_; clear HO29; clear HX1; clear HX2; clear HB; clear hl31; clear hx32; clear hx33; clear hx34; clear hl35; clear hx36; clear hx37; clear hx38; have HO29 := n1_; clear n1_; have HX1 := n2_; clear n2_; have HX2 := n3_; clear n3_; have HB := n4_; clear n4_; have HO41 := Aside0.mk (Kd.G_lower (base' := w.heap.size) (Kd.G_mono (Kd.G_bound ho0_) (ok' := fun k_ => w3.heap.size ≤ k_ ∧ k_ < w4.heap.size) (fun k_ hk_ => ⟨by have h_ := hk_.2.1; (try simp at h_); omega, hk_.2.2.1⟩)) (by have := CC.out; first | omega | (simp; done) | (simp; omega))); obtain ⟨Az42, cz42, ez42⟩ := Kd.G_slice HO41.out; subst ez42; (try have HO41z := Aside0.mk (G_bound2 (Pq := fun k_ => w3.heap.size ≤ k_ ∧ k_ < w4.heap.size) (base' := w.heap.size) hoz0_ (fun k_ h1_ h2_ => ⟨by (try simp at h1_); omega, h2_⟩) (by have := CC.out; first | omega | (simp; done) | (simp; omega)))); (try clear hoz0_); (try clear hb); (try clear ho0_); have hl43 : w.heap.size < w4.heap.size := blk_lt HX1.out; have hx44 : w4.cell? ⟨w.heap.size, 0, none⟩ = some (.int .i64 a1_0) := (blk_cell HX1.out 0).trans rfl; have hx45 : w4.cell? ⟨w.heap.size, 1, none⟩ = some (.int .i64 a1_1) := (blk_cell HX1.out 1).trans rfl; have hx46 : w4.cell? ⟨w.heap.size, 2, none⟩ = some (.slice A1_2 l1_2.length c1_2) := (blk_cell HX1.out 2).trans rfl; have hl47 : w.heap.size + 1 < w4.heap.size := blk_lt HX2.out; have hx48 : w4.cell? ⟨w.heap.size + 1, 0, none⟩ = some (.int .i64 a3_0) := (blk_cell HX2.out 0).trans rfl; have hx49 : w4.cell? ⟨w.heap.size + 1, 1, none⟩ = some (.int .i64 a3_1) := (blk_cell HX2.out 1).trans rfl; have hx50 : w4.cell? ⟨w.heap.size + 1, 2, none⟩ = some (.slice A3_2 l3_2.length c3_2) := (blk_cell HX2.out 2).trans rfl) | (go_at_call 35; (with_reducible refine (spec_PutGate.calls k a0 a1_0 a1_1 _ _ (cvL l1_2) a2 a3_0 a3_1 _ _ (cvL l3_2) r51 r52 r53 r54 _ ?side1 ?side2 ?side3 ?side4 A55.out).mono ?_); (case side1 => exact (Kd.G_reads' (n := (cvL l1_2).length) (A := Az30) (c := cz30) (by (with_reducible repeat (first | apply Kd.G_alloc | apply Kd.G_drewN | apply Kd.G_drew)); exact HO29.out)).2.2); (case side2 => exact (Kd.G_reads' (n := (cvL l1_2).length) (A := Az30) (c := cz30) HO29.out).2.1); (case side3 => exact (Kd.G_reads' (n := (cvL l3_2).length) (A := Az42) (c := cz42) (by (with_reducible repeat (first | apply Kd.G_alloc | apply Kd.G_drewN | apply Kd.G_drew)); exact HO41.out)).2.2); (case side4 => exact (Kd.G_reads' (n := (cvL l3_2).length) (A := Az42) (c := cz42) HO41.out).2.1); rintro e w5 ⟨v100_, rfl, ho0_, hb⟩; (first | have hoz0_ := G_apart (g := w4.heap.size) (o := .cells #[(.int .i64 0 : Value), (.int .i64 0 : Value), (.slice none 0 0 : Value)] 29 (0, 0)) (by exact blk_new_at (by simp)) ho0_ | have hoz0_ := G_apart hz_.out ho0_ | skip); have n1_ := Aside0.mk (Kd.G_below (by (with_reducible repeat (first | apply Kd.G_alloc | apply Kd.G_drewN | apply Kd.G_drew)); exact HO29.out) hb); have n2_ := Aside0.mk (Kd.G_below (by (with_reducible repeat (first | apply Kd.G_alloc | apply Kd.G_drewN | apply Kd.G_drew)); exact HO41.out) hb); (try clear hzc0_); (try clear hzf0_); (try clear hzc1_); (try clear hzf1_); (try clear hzc2_); (try clear hzf2_); (try clear hzl_); (first | (have hzn_ := Aside0.mk (blk_below (g := w4.heap.size) (o := .cells #[(.int .i64 0 : Value), (.int .i64 0 : Value), (.slice none 0 0 : Value)] 29 (0, 0)) (by exact blk_new_at (by simp)) hb)) | (have hzn_ := Aside0.mk (blk_below (o := .cells #[(.int .i64 0 : Value), (.int .i64 0 : Value), (.slice none 0 0 : Value)] 29 (0, 0)) hz_.out hb); clear hz_) | skip); (try (have hz_ := hzn_; clear hzn_)); (try have hzc0_ : w5.cell? ⟨_, 0, none⟩ = some ((.int .i64 0 : Value)) := (blk_cell hz_.out 0).trans rfl); (try have hzf0_ := blk_frozen hz_.out 0); (try have hzc1_ : w5.cell? ⟨_, 1, none⟩ = some ((.int .i64 0 : Value)) := (blk_cell hz_.out 1).trans rfl); (try have hzf1_ := blk_frozen hz_.out 1); (try have hzc2_ : w5.cell? ⟨_, 2, none⟩ = some ((.slice none 0 0 : Value)) := (blk_cell hz_.out 2).trans rfl); (try have hzf2_ := blk_frozen hz_.out 2); (try have hzl_ := blk_lt hz_.out); have n3_ := Aside0.mk (blk_below (g := w.heap.size) (o := .cells #[.int .i64 a1_0, .int .i64 a1_1, .slice A1_2 l1_2.length c1_2] 24 (0, 0)) (by (with_reducible repeat (first | refine blk_drewN ?_ _ | refine blk_drew ?_ | refine blk_alloc ?_ _)); exact HX1.out) hb); have n4_ := Aside0.mk (blk_below (g := w.heap.size + 1) (o := .cells #[.int .i64 a3_0, .int .i64 a3_1, .slice A3_2 l3_2.length c3_2] 24 (0, 0)) (by (with_reducible repeat (first | refine blk_drewN ?_ _ | refine blk_drew ?_ | refine blk_alloc ?_ _)); exact HX2.out) hb); have n5_ := Aside0.mk (below_step (by repeat (first | (with_reducible first | exact HB.out | apply below_alloc | apply pw_below_drewN | apply below_drew1) | exact HB.out)) hb); have C56 : Aside0 (w4.heap.size ≤ w5.heap.size) := ⟨by have h_ := hb.size; (try simp at h_); omega⟩; have CCn_ := Aside0.mk (And.intro CC.out C56.out); clear CC; have CC := CCn_; clear CCn_; clear HO29; clear HO41; clear HX1; clear HX2; clear HB; clear hl43; clear hx44; clear hx45; clear hx46; clear hl47; clear hx48; clear hx49; clear hx50; have HO29 := n1_; clear n1_; have HO41 := n2_; clear n2_; have HX1 := n3_; clear n3_; have HX2 := n4_; clear n4_; have HB := n5_; clear n5_; have HO57 := Aside0.mk (Kd.G_lower (base' := w.heap.size) (Kd.G_mono (Kd.G_bound ho0_) (ok' := fun k_ => w4.heap.size ≤ k_ ∧ k_ < w5.heap.size) (fun k_ hk_ => ⟨by have h_ := hk_.2.1; (try simp at h_); omega, hk_.2.2.1⟩)) (by have := CC.out; first | omega | (simp; done) | (simp; omega))); obtain ⟨Az58, cz58, ez58⟩ := Kd.G_slice HO57.out; subst ez58; (try have HO57z := Aside0.mk (G_bound2 (Pq := fun k_ => w4.heap.size ≤ k_ ∧ k_ < w5.heap.size) (base' := w.heap.size) hoz0_ (fun k_ h1_ h2_ => ⟨by (try simp at h1_); omega, h2_⟩) (by have := CC.out; first | omega | (simp; done) | (simp; omega)))); (try clear hoz0_); (try clear hb); (try clear ho0_); have hl59 : w.heap.size < w5.heap.size := blk_lt HX1.out; have hx60 : w5.cell? ⟨w.heap.size, 0, none⟩ = some (.int .i64 a1_0) := (blk_cell HX1.out 0).trans rfl; have hx61 : w5.cell? ⟨w.heap.size, 1, none⟩ = some (.int .i64 a1_1) := (blk_cell HX1.out 1).trans rfl; have hx62 : w5.cell? ⟨w.heap.size, 2, none⟩ = some (.slice A1_2 l1_2.length c1_2) := (blk_cell HX1.out 2).trans rfl; have hl63 : w.heap.size + 1 < w5.heap.size := blk_lt HX2.out; have hx64 : w5.cell? ⟨w.heap.size + 1, 0, none⟩ = some (.int .i64 a3_0) := (blk_cell HX2.out 0).trans rfl; have hx65 : w5.cell? ⟨w.heap.size + 1, 1, none⟩ = some (.int .i64 a3_1) := (blk_cell HX2.out 1).trans rfl; have hx66 : w5.cell? ⟨w.heap.size + 1, 2, none⟩ = some (.slice A3_2 l3_2.length c3_2) := (blk_cell HX2.out 2).trans rfl))
    all_goals (go_wp2_with fail; go_meet; first | (have hq_ := hz_.out; clear hq_; exact ⟨_, _, _, rfl, rfl, ⟨Kd.G_mono (Kd.G_far (p := ⟨_, 2, none⟩) (Kd.G_far (p := ⟨_, 1, none⟩) (Kd.G_far (p := ⟨_, 0, none⟩) (HO57z.out) (fun k_ hk_ => hk_.2) _) (fun k_ hk_ => hk_.2) _) (fun k_ hk_ => hk_.2) _) (fun k_ hk_ => ⟨by have := CC.out; have h1_ := hk_.1.1; omega, by rw [size_set, size_set, size_set]; exact hk_.1.2⟩)⟩, ⟨blk_put (blk_put (blk_put (hz_.out) 0 _ rfl) 1 _ rfl) 2 _ rfl⟩, ⟨blk_far (p := ⟨_, 2, none⟩) (blk_far (p := ⟨_, 1, none⟩) (blk_far (p := ⟨_, 0, none⟩) (HX1.out) (by have := CC.out; dsimp only; omega) _) (by have := CC.out; dsimp only; omega) _) (by have := CC.out; dsimp only; omega) _⟩, ⟨blk_far (p := ⟨_, 2, none⟩) (blk_far (p := ⟨_, 1, none⟩) (blk_far (p := ⟨_, 0, none⟩) (HX2.out) (by have := CC.out; dsimp only; omega) _) (by have := CC.out; dsimp only; omega) _) (by have := CC.out; dsimp only; omega) _⟩, ⟨below_set (below_set (below_set (HB.out) (by have := CC.out; omega)) (by have := CC.out; omega)) (by have := CC.out; omega)⟩, ⟨by rw [size_set, size_set, size_set]; have := CC.out; omega⟩⟩) | exact ⟨_, _, _, rfl, rfl, ⟨Kd.G_mono (Kd.G_alloc HO57.out _) (fun k_ hk_ => ⟨by have := CC.out; have h1_ := hk_.1; omega, lt_alloc hk_.2⟩)⟩, ⟨blk_new _ _⟩, ⟨blk_alloc HX1.out _⟩, ⟨blk_alloc HX2.out _⟩, ⟨below_alloc HB.out _⟩, ⟨le_alloc (by have := CC.out; omega)⟩⟩)
  case rest =>
  (try clear hl18)
  (try clear hx19)
  (try clear hx20)
  (try clear hx21)
  (try clear hl22)
  (try clear hx23)
  (try clear hx24)
  (try clear hx25)
  (try clear HX1)
  (try clear HX2)
  (try clear HB)
  obtain ⟨gC68, Az58, cz58, rfl, rfl, HO57, HX67, HX1, HX2, HB, C69⟩ := hcut
  rename World => w6
  have C70 : Aside0 (gC68 + 1 ≤ w6.heap.size) := ⟨blk_lt HX67.out⟩
  have CCn_ := Aside0.mk (And.intro CC.out C69.out)
  clear CC
  have CC := CCn_
  clear CCn_
  have CCn_ := Aside0.mk (And.intro CC.out C70.out)
  clear CC
  have CC := CCn_
  clear CCn_
  have hl71 : w.heap.size < w6.heap.size := blk_lt HX1.out
  have hx72 : w6.cell? ⟨w.heap.size, 0, none⟩ = some (.int .i64 a1_0) := (blk_cell HX1.out 0).trans rfl
  have hx73 : w6.cell? ⟨w.heap.size, 1, none⟩ = some (.int .i64 a1_1) := (blk_cell HX1.out 1).trans rfl
  have hx74 : w6.cell? ⟨w.heap.size, 2, none⟩ = some (.slice A1_2 l1_2.length c1_2) := (blk_cell HX1.out 2).trans rfl
  have hl75 : w.heap.size + 1 < w6.heap.size := blk_lt HX2.out
  have hx76 : w6.cell? ⟨w.heap.size + 1, 0, none⟩ = some (.int .i64 a3_0) := (blk_cell HX2.out 0).trans rfl
  have hx77 : w6.cell? ⟨w.heap.size + 1, 1, none⟩ = some (.int .i64 a3_1) := (blk_cell HX2.out 1).trans rfl
  have hx78 : w6.cell? ⟨w.heap.size + 1, 2, none⟩ = some (.slice A3_2 l3_2.length c3_2) := (blk_cell HX2.out 2).trans rfl
  have hl79 : gC68 < w6.heap.size := blk_lt HX67.out
  have hx80 : w6.cell? ⟨gC68, 0, none⟩ = some (.int .i64 r51) := (blk_cell HX67.out 0).trans rfl
  have hx81 : w6.cell? ⟨gC68, 1, none⟩ = some (.int .i64 r52) := (blk_cell HX67.out 1).trans rfl
  have hx82 : w6.cell? ⟨gC68, 2, none⟩ = some (.slice Az58 r53.length cz58) := (blk_cell HX67.out 2).trans rfl
  go_wp2_with (first | ((with_reducible refine gate_callee (f := 14) rfl ?_); refine goesL_ (some 42) rfl rfl Try.func14 (by kernel_rfl) rfl #[.agg #[.int .i64 a1_0, .int .i64 a1_1, .slice A1_2 l1_2.length c1_2]] rfl (by (try simp only [List.map_toArray, List.map_cons, List.map_nil]); first | done | rfl | (simp only [List.length_drop, List.length_take]; rfl)) ?_; (with_reducible refine (laws_toGate.calls k a1_0 a1_1 _ _ l1_2 a1_0 a1_1 (cvL l1_2) _ ?side1 ?side2 A83.out).mono ?_); (case side1 => exact Kd.C_below HR1_2.out (by repeat (first | (with_reducible first | exact HB.out | apply below_alloc | apply pw_below_drewN | apply below_drew1) | exact HB.out))); (case side2 => exact HC1_2.out); rintro e w7 ⟨v100_, rfl, ho0_, hb⟩; refine ⟨_, rfl, ?_⟩; have n1_ := Aside0.mk (Kd.G_below (by (with_reducible repeat (first | apply Kd.G_alloc | apply Kd.G_drewN | apply Kd.G_drew)); exact HO57.out) hb); have n2_ := Aside0.mk (blk_below (g := w.heap.size) (o := .cells #[.int .i64 a1_0, .int .i64 a1_1, .slice A1_2 l1_2.length c1_2] 24 (0, 0)) (by (with_reducible repeat (first | refine blk_drewN ?_ _ | refine blk_drew ?_ | refine blk_alloc ?_ _)); exact HX1.out) hb); have n3_ := Aside0.mk (blk_below (g := w.heap.size + 1) (o := .cells #[.int .i64 a3_0, .int .i64 a3_1, .slice A3_2 l3_2.length c3_2] 24 (0, 0)) (by (with_reducible repeat (first | refine blk_drewN ?_ _ | refine blk_drew ?_ | refine blk_alloc ?_ _)); exact HX2.out) hb); have n4_ := Aside0.mk (blk_below (g := gC68) (o := .cells #[.int .i64 r51, .int .i64 r52, .slice Az58 r53.length cz58] 29 (0, 0)) (by (with_reducible repeat (first | refine blk_drewN ?_ _ | refine blk_drew ?_ | refine blk_alloc ?_ _)); exact HX67.out) hb); have n5_ := Aside0.mk (below_step (by repeat (first | (with_reducible first | exact HB.out | apply below_alloc | apply pw_below_drewN | apply below_drew1) | exact HB.out)) hb); have C84 : Aside0 (w6.heap.size ≤ w7.heap.size) := ⟨by have h_ := hb.size; (try simp at h_); omega⟩; have CCn_ := Aside0.mk (And.intro CC.out C84.out); clear CC; have CC := CCn_; clear CCn_; clear HO57; clear HX1; clear HX2; clear HX67; clear HB; clear hl71; clear hx72; clear hx73; clear hx74; clear hl75; clear hx76; clear hx77; clear hx78; clear hl79; clear hx80; clear hx81; clear hx82; have HO57 := n1_; clear n1_; have HX1 := n2_; clear n2_; have HX2 := n3_; clear n3_; have HX67 := n4_; clear n4_; have HB := n5_; clear n5_; have HO85 := Aside0.mk (Kd.G_lower (base' := w.heap.size) (Kd.G_mono (Kd.G_bound ho0_) (ok' := fun k_ => w6.heap.size ≤ k_ ∧ k_ < w7.heap.size) (fun k_ hk_ => ⟨by have h_ := hk_.2.1; (try simp at h_); omega, hk_.2.2.1⟩)) (by have := CC.out; first | omega | (simp; done) | (simp; omega))); obtain ⟨Az86, cz86, ez86⟩ := Kd.G_slice HO85.out; subst ez86; (try clear hb); (try clear ho0_); have hl87 : w.heap.size < w7.heap.size := blk_lt HX1.out; have hx88 : w7.cell? ⟨w.heap.size, 0, none⟩ = some (.int .i64 a1_0) := (blk_cell HX1.out 0).trans rfl; have hx89 : w7.cell? ⟨w.heap.size, 1, none⟩ = some (.int .i64 a1_1) := (blk_cell HX1.out 1).trans rfl; have hx90 : w7.cell? ⟨w.heap.size, 2, none⟩ = some (.slice A1_2 l1_2.length c1_2) := (blk_cell HX1.out 2).trans rfl; have hl91 : w.heap.size + 1 < w7.heap.size := blk_lt HX2.out; have hx92 : w7.cell? ⟨w.heap.size + 1, 0, none⟩ = some (.int .i64 a3_0) := (blk_cell HX2.out 0).trans rfl; have hx93 : w7.cell? ⟨w.heap.size + 1, 1, none⟩ = some (.int .i64 a3_1) := (blk_cell HX2.out 1).trans rfl; have hx94 : w7.cell? ⟨w.heap.size + 1, 2, none⟩ = some (.slice A3_2 l3_2.length c3_2) := (blk_cell HX2.out 2).trans rfl; have hl95 : gC68 < w7.heap.size := blk_lt HX67.out; have hx96 : w7.cell? ⟨gC68, 0, none⟩ = some (.int .i64 r51) := (blk_cell HX67.out 0).trans rfl; have hx97 : w7.cell? ⟨gC68, 1, none⟩ = some (.int .i64 r52) := (blk_cell HX67.out 1).trans rfl; have hx98 : w7.cell? ⟨gC68, 2, none⟩ = some (.slice Az58 r53.length cz58) := (blk_cell HX67.out 2).trans rfl) | ((with_reducible refine gate_callee (f := 14) rfl ?_); refine goesL_ (some 44) rfl rfl Try.func14 (by kernel_rfl) rfl #[.agg #[.int .i64 a3_0, .int .i64 a3_1, .slice A3_2 l3_2.length c3_2]] rfl (by (try simp only [List.map_toArray, List.map_cons, List.map_nil]); first | done | rfl | (simp only [List.length_drop, List.length_take]; rfl)) ?_; (with_reducible refine (laws_toGate.calls k a3_0 a3_1 _ _ l3_2 a3_0 a3_1 (cvL l3_2) _ ?side1 ?side2 A100.out).mono ?_); (case side1 => exact Kd.C_below HR3_2.out (by repeat (first | (with_reducible first | exact HB.out | apply below_alloc | apply pw_below_drewN | apply below_drew1) | exact HB.out))); (case side2 => exact HC3_2.out); rintro e w8 ⟨v100_, rfl, ho0_, hb⟩; refine ⟨_, rfl, ?_⟩; have n1_ := Aside0.mk (Kd.G_below (by (with_reducible repeat (first | apply Kd.G_alloc | apply Kd.G_drewN | apply Kd.G_drew)); exact HO57.out) hb); have n2_ := Aside0.mk (Kd.G_below (by (with_reducible repeat (first | apply Kd.G_alloc | apply Kd.G_drewN | apply Kd.G_drew)); exact HO85.out) hb); have n3_ := Aside0.mk (blk_below (g := w.heap.size) (o := .cells #[.int .i64 a1_0, .int .i64 a1_1, .slice A1_2 l1_2.length c1_2] 24 (0, 0)) (by (with_reducible repeat (first | refine blk_drewN ?_ _ | refine blk_drew ?_ | refine blk_alloc ?_ _)); exact HX1.out) hb); have n4_ := Aside0.mk (blk_below (g := w.heap.size + 1) (o := .cells #[.int .i64 a3_0, .int .i64 a3_1, .slice A3_2 l3_2.length c3_2] 24 (0, 0)) (by (with_reducible repeat (first | refine blk_drewN ?_ _ | refine blk_drew ?_ | refine blk_alloc ?_ _)); exact HX2.out) hb); have n5_ := Aside0.mk (blk_below (g := gC68) (o := .cells #[.int .i64 r51, .int .i64 r52, .slice Az58 r53.length cz58] 29 (0, 0)) (by (with_reducible repeat (first | refine blk_drewN ?_ _ | refine blk_drew ?_ | refine blk_alloc ?_ _)); exact HX67.out) hb); have n6_ := Aside0.mk (blk_below (g := w7.heap.size) (o := .cells #[.int .i64 a1_0, .int .i64 a1_1, .slice Az86 (cvL l1_2).length cz86] 29 (0, 0)) (by repeat (first | exact blk_new_at (by simp) | (with_reducible refine blk_drewN ?_ _) | (with_reducible refine blk_drew ?_) | (with_reducible refine blk_alloc ?_ _))) hb); have n7_ := Aside0.mk (below_step (by repeat (first | (with_reducible first | exact HB.out | apply below_alloc | apply pw_below_drewN | apply below_drew1) | exact HB.out)) hb); have C101 : Aside0 (w7.heap.size + 1 ≤ w8.heap.size) := ⟨by have h_ := hb.size; (try simp at h_); omega⟩; have CCn_ := Aside0.mk (And.intro CC.out C101.out); clear CC; have CC := CCn_; clear CCn_; clear HO57; clear HO85; clear HX1; clear HX2; clear HX67; clear HB; clear hl87; clear hx88; clear hx89; clear hx90; clear hl91; clear hx92; clear hx93; clear hx94; clear hl95; clear hx96; clear hx97; clear hx98; have HO57 := n1_; clear n1_; have HO85 := n2_; clear n2_; have HX1 := n3_; clear n3_; have HX2 := n4_; clear n4_; have HX67 := n5_; clear n5_; have HX99 := n6_; clear n6_; have HB := n7_; clear n7_; have HO102 := Aside0.mk (Kd.G_lower (base' := w.heap.size) (Kd.G_mono (Kd.G_bound ho0_) (ok' := fun k_ => w7.heap.size + 1 ≤ k_ ∧ k_ < w8.heap.size) (fun k_ hk_ => ⟨by have h_ := hk_.2.1; (try simp at h_); omega, hk_.2.2.1⟩)) (by have := CC.out; first | omega | (simp; done) | (simp; omega))); obtain ⟨Az103, cz103, ez103⟩ := Kd.G_slice HO102.out; subst ez103; (try clear hb); (try clear ho0_); have hl104 : w.heap.size < w8.heap.size := blk_lt HX1.out; have hx105 : w8.cell? ⟨w.heap.size, 0, none⟩ = some (.int .i64 a1_0) := (blk_cell HX1.out 0).trans rfl; have hx106 : w8.cell? ⟨w.heap.size, 1, none⟩ = some (.int .i64 a1_1) := (blk_cell HX1.out 1).trans rfl; have hx107 : w8.cell? ⟨w.heap.size, 2, none⟩ = some (.slice A1_2 l1_2.length c1_2) := (blk_cell HX1.out 2).trans rfl; have hl108 : w.heap.size + 1 < w8.heap.size := blk_lt HX2.out; have hx109 : w8.cell? ⟨w.heap.size + 1, 0, none⟩ = some (.int .i64 a3_0) := (blk_cell HX2.out 0).trans rfl; have hx110 : w8.cell? ⟨w.heap.size + 1, 1, none⟩ = some (.int .i64 a3_1) := (blk_cell HX2.out 1).trans rfl; have hx111 : w8.cell? ⟨w.heap.size + 1, 2, none⟩ = some (.slice A3_2 l3_2.length c3_2) := (blk_cell HX2.out 2).trans rfl; have hl112 : gC68 < w8.heap.size := blk_lt HX67.out; have hx113 : w8.cell? ⟨gC68, 0, none⟩ = some (.int .i64 r51) := (blk_cell HX67.out 0).trans rfl; have hx114 : w8.cell? ⟨gC68, 1, none⟩ = some (.int .i64 r52) := (blk_cell HX67.out 1).trans rfl; have hx115 : w8.cell? ⟨gC68, 2, none⟩ = some (.slice Az58 r53.length cz58) := (blk_cell HX67.out 2).trans rfl; have hl116 : w7.heap.size < w8.heap.size := blk_lt HX99.out; have hx117 : w8.cell? ⟨w7.heap.size, 0, none⟩ = some (.int .i64 a1_0) := (blk_cell HX99.out 0).trans rfl; have hx118 : w8.cell? ⟨w7.heap.size, 1, none⟩ = some (.int .i64 a1_1) := (blk_cell HX99.out 1).trans rfl; have hx119 : w8.cell? ⟨w7.heap.size, 2, none⟩ = some (.slice Az86 (cvL l1_2).length cz86) := (blk_cell HX99.out 2).trans rfl) | ((with_reducible refine gate_callee (f := 36) rfl ?_); refine goesL_ (some 50) rfl rfl Try.func36 (by kernel_rfl) rfl #[.int .i64 a0, .agg #[.int .i64 a1_0, .int .i64 a1_1, .slice Az86 (cvL l1_2).length cz86], .int .i64 a2, .agg #[.int .i64 a3_0, .int .i64 a3_1, .slice Az103 (cvL l3_2).length cz103]] rfl (by (try simp only [List.map_toArray, List.map_cons, List.map_nil]); first | done | rfl | (simp only [List.length_drop, List.length_take]; rfl)) ?_; (with_reducible refine (impl_PutGate.calls k a0 a1_0 a1_1 _ _ (cvL l1_2) a2 a3_0 a3_1 _ _ (cvL l3_2) r51 r52 r53 r54 _ ?side1 ?side2 ?side3 ?side4 A121.out).mono ?_); (case side1 => exact (Kd.G_reads' (n := (cvL l1_2).length) (A := Az86) (c := cz86) (by (with_reducible repeat (first | apply Kd.G_alloc | apply Kd.G_drewN | apply Kd.G_drew)); exact HO85.out)).2.2); (case side2 => exact (Kd.G_reads' (n := (cvL l1_2).length) (A := Az86) (c := cz86) HO85.out).2.1); (case side3 => exact (Kd.G_reads' (n := (cvL l3_2).length) (A := Az103) (c := cz103) (by (with_reducible repeat (first | apply Kd.G_alloc | apply Kd.G_drewN | apply Kd.G_drew)); exact HO102.out)).2.2); (case side4 => exact (Kd.G_reads' (n := (cvL l3_2).length) (A := Az103) (c := cz103) HO102.out).2.1); rintro e w9 ⟨v100_, rfl, ho0_, hb⟩; refine ⟨_, rfl, ?_⟩; have n1_ := Aside0.mk (Kd.G_below (by (with_reducible repeat (first | apply Kd.G_alloc | apply Kd.G_drewN | apply Kd.G_drew)); exact HO57.out) hb); have n2_ := Aside0.mk (Kd.G_below (by (with_reducible repeat (first | apply Kd.G_alloc | apply Kd.G_drewN | apply Kd.G_drew)); exact HO85.out) hb); have n3_ := Aside0.mk (Kd.G_below (by (with_reducible repeat (first | apply Kd.G_alloc | apply Kd.G_drewN | apply Kd.G_drew)); exact HO102.out) hb); have n4_ := Aside0.mk (blk_below (g := w.heap.size) (o := .cells #[.int .i64 a1_0, .int .i64 a1_1, .slice A1_2 l1_2.length c1_2] 24 (0, 0)) (by (with_reducible repeat (first | refine blk_drewN ?_ _ | refine blk_drew ?_ | refine blk_alloc ?_ _)); exact HX1.out) hb); have n5_ := Aside0.mk (blk_below (g := w.heap.size + 1) (o := .cells #[.int .i64 a3_0, .int .i64 a3_1, .slice A3_2 l3_2.length c3_2] 24 (0, 0)) (by (with_reducible repeat (first | refine blk_drewN ?_ _ | refine blk_drew ?_ | refine blk_alloc ?_ _)); exact HX2.out) hb); have n6_ := Aside0.mk (blk_below (g := gC68) (o := .cells #[.int .i64 r51, .int .i64 r52, .slice Az58 r53.length cz58] 29 (0, 0)) (by (with_reducible repeat (first | refine blk_drewN ?_ _ | refine blk_drew ?_ | refine blk_alloc ?_ _)); exact HX67.out) hb); have n7_ := Aside0.mk (blk_below (g := w7.heap.size) (o := .cells #[.int .i64 a1_0, .int .i64 a1_1, .slice Az86 (cvL l1_2).length cz86] 29 (0, 0)) (by (with_reducible repeat (first | refine blk_drewN ?_ _ | refine blk_drew ?_ | refine blk_alloc ?_ _)); exact HX99.out) hb); have n8_ := Aside0.mk (blk_below (g := w8.heap.size) (o := .cells #[.int .i64 a3_0, .int .i64 a3_1, .slice Az103 (cvL l3_2).length cz103] 29 (0, 0)) (by repeat (first | exact blk_new_at (by simp) | (with_reducible refine blk_drewN ?_ _) | (with_reducible refine blk_drew ?_) | (with_reducible refine blk_alloc ?_ _))) hb); have n9_ := Aside0.mk (below_step (by repeat (first | (with_reducible first | exact HB.out | apply below_alloc | apply pw_below_drewN | apply below_drew1) | exact HB.out)) hb); have C122 : Aside0 (w8.heap.size + 1 ≤ w9.heap.size) := ⟨by have h_ := hb.size; (try simp at h_); omega⟩; have CCn_ := Aside0.mk (And.intro CC.out C122.out); clear CC; have CC := CCn_; clear CCn_; clear HO57; clear HO85; clear HO102; clear HX1; clear HX2; clear HX67; clear HX99; clear HB; clear hl104; clear hx105; clear hx106; clear hx107; clear hl108; clear hx109; clear hx110; clear hx111; clear hl112; clear hx113; clear hx114; clear hx115; clear hl116; clear hx117; clear hx118; clear hx119; have HO57 := n1_; clear n1_; have HO85 := n2_; clear n2_; have HO102 := n3_; clear n3_; have HX1 := n4_; clear n4_; have HX2 := n5_; clear n5_; have HX67 := n6_; clear n6_; have HX99 := n7_; clear n7_; have HX120 := n8_; clear n8_; have HB := n9_; clear n9_; have HO123 := Aside0.mk (Kd.G_lower (base' := w.heap.size) (Kd.G_mono (Kd.G_bound ho0_) (ok' := fun k_ => w8.heap.size + 1 ≤ k_ ∧ k_ < w9.heap.size) (fun k_ hk_ => ⟨by have h_ := hk_.2.1; (try simp at h_); omega, hk_.2.2.1⟩)) (by have := CC.out; first | omega | (simp; done) | (simp; omega))); obtain ⟨Az124, cz124, ez124⟩ := Kd.G_slice HO123.out; subst ez124; (try clear hb); (try clear ho0_); have hl125 : w.heap.size < w9.heap.size := blk_lt HX1.out; have hx126 : w9.cell? ⟨w.heap.size, 0, none⟩ = some (.int .i64 a1_0) := (blk_cell HX1.out 0).trans rfl; have hx127 : w9.cell? ⟨w.heap.size, 1, none⟩ = some (.int .i64 a1_1) := (blk_cell HX1.out 1).trans rfl; have hx128 : w9.cell? ⟨w.heap.size, 2, none⟩ = some (.slice A1_2 l1_2.length c1_2) := (blk_cell HX1.out 2).trans rfl; have hl129 : w.heap.size + 1 < w9.heap.size := blk_lt HX2.out; have hx130 : w9.cell? ⟨w.heap.size + 1, 0, none⟩ = some (.int .i64 a3_0) := (blk_cell HX2.out 0).trans rfl; have hx131 : w9.cell? ⟨w.heap.size + 1, 1, none⟩ = some (.int .i64 a3_1) := (blk_cell HX2.out 1).trans rfl; have hx132 : w9.cell? ⟨w.heap.size + 1, 2, none⟩ = some (.slice A3_2 l3_2.length c3_2) := (blk_cell HX2.out 2).trans rfl; have hl133 : gC68 < w9.heap.size := blk_lt HX67.out; have hx134 : w9.cell? ⟨gC68, 0, none⟩ = some (.int .i64 r51) := (blk_cell HX67.out 0).trans rfl; have hx135 : w9.cell? ⟨gC68, 1, none⟩ = some (.int .i64 r52) := (blk_cell HX67.out 1).trans rfl; have hx136 : w9.cell? ⟨gC68, 2, none⟩ = some (.slice Az58 r53.length cz58) := (blk_cell HX67.out 2).trans rfl; have hl137 : w7.heap.size < w9.heap.size := blk_lt HX99.out; have hx138 : w9.cell? ⟨w7.heap.size, 0, none⟩ = some (.int .i64 a1_0) := (blk_cell HX99.out 0).trans rfl; have hx139 : w9.cell? ⟨w7.heap.size, 1, none⟩ = some (.int .i64 a1_1) := (blk_cell HX99.out 1).trans rfl; have hx140 : w9.cell? ⟨w7.heap.size, 2, none⟩ = some (.slice Az86 (cvL l1_2).length cz86) := (blk_cell HX99.out 2).trans rfl; have hl141 : w8.heap.size < w9.heap.size := blk_lt HX120.out; have hx142 : w9.cell? ⟨w8.heap.size, 0, none⟩ = some (.int .i64 a3_0) := (blk_cell HX120.out 0).trans rfl; have hx143 : w9.cell? ⟨w8.heap.size, 1, none⟩ = some (.int .i64 a3_1) := (blk_cell HX120.out 1).trans rfl; have hx144 : w9.cell? ⟨w8.heap.size, 2, none⟩ = some (.slice Az103 (cvL l3_2).length cz103) := (blk_cell HX120.out 2).trans rfl) | ((with_reducible refine gate_callee (f := 16) rfl ?_); refine goesL_ (some 55) rfl rfl Try.func16 (by kernel_rfl) rfl #[.agg #[.int .i64 r51, .int .i64 r52, .slice Az124 r53.length cz124], .agg #[.int .i64 r51, .int .i64 r52, .slice Az58 r53.length cz58]] rfl (by (try simp only [List.map_toArray, List.map_cons, List.map_nil]); first | done | rfl | (simp only [List.length_drop, List.length_take]; rfl)) ?_; (with_reducible refine (laws_eqGate.calls k r51 r52 _ _ r53 r51 r52 _ _ r53 true _ ?side1 ?side2 ?side3 ?side4 A146.out).mono ?_); (case side1 => exact (Kd.G_reads' (n := r53.length) (A := Az124) (c := cz124) (by (with_reducible repeat (first | apply Kd.G_alloc | apply Kd.G_drewN | apply Kd.G_drew)); exact HO123.out)).2.2); (case side2 => exact (Kd.G_reads' (n := r53.length) (A := Az124) (c := cz124) HO123.out).2.1); (case side3 => exact (Kd.G_reads' (n := r53.length) (A := Az58) (c := cz58) (by (with_reducible repeat (first | apply Kd.G_alloc | apply Kd.G_drewN | apply Kd.G_drew)); exact HO57.out)).2.2); (case side4 => exact (Kd.G_reads' (n := r53.length) (A := Az58) (c := cz58) HO57.out).2.1); rintro e w10 ⟨rfl, hb⟩; refine ⟨_, rfl, ?_⟩; have n1_ := Aside0.mk (Kd.G_below (by (with_reducible repeat (first | apply Kd.G_alloc | apply Kd.G_drewN | apply Kd.G_drew)); exact HO57.out) hb); have n2_ := Aside0.mk (Kd.G_below (by (with_reducible repeat (first | apply Kd.G_alloc | apply Kd.G_drewN | apply Kd.G_drew)); exact HO85.out) hb); have n3_ := Aside0.mk (Kd.G_below (by (with_reducible repeat (first | apply Kd.G_alloc | apply Kd.G_drewN | apply Kd.G_drew)); exact HO102.out) hb); have n4_ := Aside0.mk (Kd.G_below (by (with_reducible repeat (first | apply Kd.G_alloc | apply Kd.G_drewN | apply Kd.G_drew)); exact HO123.out) hb); have n5_ := Aside0.mk (blk_below (g := w.heap.size) (o := .cells #[.int .i64 a1_0, .int .i64 a1_1, .slice A1_2 l1_2.length c1_2] 24 (0, 0)) (by (with_reducible repeat (first | refine blk_drewN ?_ _ | refine blk_drew ?_ | refine blk_alloc ?_ _)); exact HX1.out) hb); have n6_ := Aside0.mk (blk_below (g := w.heap.size + 1) (o := .cells #[.int .i64 a3_0, .int .i64 a3_1, .slice A3_2 l3_2.length c3_2] 24 (0, 0)) (by (with_reducible repeat (first | refine blk_drewN ?_ _ | refine blk_drew ?_ | refine blk_alloc ?_ _)); exact HX2.out) hb); have n7_ := Aside0.mk (blk_below (g := gC68) (o := .cells #[.int .i64 r51, .int .i64 r52, .slice Az58 r53.length cz58] 29 (0, 0)) (by (with_reducible repeat (first | refine blk_drewN ?_ _ | refine blk_drew ?_ | refine blk_alloc ?_ _)); exact HX67.out) hb); have n8_ := Aside0.mk (blk_below (g := w7.heap.size) (o := .cells #[.int .i64 a1_0, .int .i64 a1_1, .slice Az86 (cvL l1_2).length cz86] 29 (0, 0)) (by (with_reducible repeat (first | refine blk_drewN ?_ _ | refine blk_drew ?_ | refine blk_alloc ?_ _)); exact HX99.out) hb); have n9_ := Aside0.mk (blk_below (g := w8.heap.size) (o := .cells #[.int .i64 a3_0, .int .i64 a3_1, .slice Az103 (cvL l3_2).length cz103] 29 (0, 0)) (by (with_reducible repeat (first | refine blk_drewN ?_ _ | refine blk_drew ?_ | refine blk_alloc ?_ _)); exact HX120.out) hb); have n10_ := Aside0.mk (blk_below (g := w9.heap.size) (o := .cells #[.int .i64 r51, .int .i64 r52, .slice Az124 r53.length cz124] 29 (0, 0)) (by repeat (first | exact blk_new_at (by simp) | (with_reducible refine blk_drewN ?_ _) | (with_reducible refine blk_drew ?_) | (with_reducible refine blk_alloc ?_ _))) hb); have n11_ := Aside0.mk (below_step (by repeat (first | (with_reducible first | exact HB.out | apply below_alloc | apply pw_below_drewN | apply below_drew1) | exact HB.out)) hb); have C147 : Aside0 (w9.heap.size + 1 ≤ w10.heap.size) := ⟨by have h_ := hb.size; (try simp at h_); omega⟩; have CCn_ := Aside0.mk (And.intro CC.out C147.out); clear CC; have CC := CCn_; clear CCn_; clear HO57; clear HO85; clear HO102; clear HO123; clear HX1; clear HX2; clear HX67; clear HX99; clear HX120; clear HB; clear hl125; clear hx126; clear hx127; clear hx128; clear hl129; clear hx130; clear hx131; clear hx132; clear hl133; clear hx134; clear hx135; clear hx136; clear hl137; clear hx138; clear hx139; clear hx140; clear hl141; clear hx142; clear hx143; clear hx144; have HO57 := n1_; clear n1_; have HO85 := n2_; clear n2_; have HO102 := n3_; clear n3_; have HO123 := n4_; clear n4_; have HX1 := n5_; clear n5_; have HX2 := n6_; clear n6_; have HX67 := n7_; clear n7_; have HX99 := n8_; clear n8_; have HX120 := n9_; clear n9_; have HX145 := n10_; clear n10_; have HB := n11_; clear n11_; (try clear hb); have hl148 : w.heap.size < w10.heap.size := blk_lt HX1.out; have hx149 : w10.cell? ⟨w.heap.size, 0, none⟩ = some (.int .i64 a1_0) := (blk_cell HX1.out 0).trans rfl; have hx150 : w10.cell? ⟨w.heap.size, 1, none⟩ = some (.int .i64 a1_1) := (blk_cell HX1.out 1).trans rfl; have hx151 : w10.cell? ⟨w.heap.size, 2, none⟩ = some (.slice A1_2 l1_2.length c1_2) := (blk_cell HX1.out 2).trans rfl; have hl152 : w.heap.size + 1 < w10.heap.size := blk_lt HX2.out; have hx153 : w10.cell? ⟨w.heap.size + 1, 0, none⟩ = some (.int .i64 a3_0) := (blk_cell HX2.out 0).trans rfl; have hx154 : w10.cell? ⟨w.heap.size + 1, 1, none⟩ = some (.int .i64 a3_1) := (blk_cell HX2.out 1).trans rfl; have hx155 : w10.cell? ⟨w.heap.size + 1, 2, none⟩ = some (.slice A3_2 l3_2.length c3_2) := (blk_cell HX2.out 2).trans rfl; have hl156 : gC68 < w10.heap.size := blk_lt HX67.out; have hx157 : w10.cell? ⟨gC68, 0, none⟩ = some (.int .i64 r51) := (blk_cell HX67.out 0).trans rfl; have hx158 : w10.cell? ⟨gC68, 1, none⟩ = some (.int .i64 r52) := (blk_cell HX67.out 1).trans rfl; have hx159 : w10.cell? ⟨gC68, 2, none⟩ = some (.slice Az58 r53.length cz58) := (blk_cell HX67.out 2).trans rfl; have hl160 : w7.heap.size < w10.heap.size := blk_lt HX99.out; have hx161 : w10.cell? ⟨w7.heap.size, 0, none⟩ = some (.int .i64 a1_0) := (blk_cell HX99.out 0).trans rfl; have hx162 : w10.cell? ⟨w7.heap.size, 1, none⟩ = some (.int .i64 a1_1) := (blk_cell HX99.out 1).trans rfl; have hx163 : w10.cell? ⟨w7.heap.size, 2, none⟩ = some (.slice Az86 (cvL l1_2).length cz86) := (blk_cell HX99.out 2).trans rfl; have hl164 : w8.heap.size < w10.heap.size := blk_lt HX120.out; have hx165 : w10.cell? ⟨w8.heap.size, 0, none⟩ = some (.int .i64 a3_0) := (blk_cell HX120.out 0).trans rfl; have hx166 : w10.cell? ⟨w8.heap.size, 1, none⟩ = some (.int .i64 a3_1) := (blk_cell HX120.out 1).trans rfl; have hx167 : w10.cell? ⟨w8.heap.size, 2, none⟩ = some (.slice Az103 (cvL l3_2).length cz103) := (blk_cell HX120.out 2).trans rfl; have hl168 : w9.heap.size < w10.heap.size := blk_lt HX145.out; have hx169 : w10.cell? ⟨w9.heap.size, 0, none⟩ = some (.int .i64 r51) := (blk_cell HX145.out 0).trans rfl; have hx170 : w10.cell? ⟨w9.heap.size, 1, none⟩ = some (.int .i64 r52) := (blk_cell HX145.out 1).trans rfl; have hx171 : w10.cell? ⟨w9.heap.size, 2, none⟩ = some (.slice Az124 r53.length cz124) := (blk_cell HX145.out 2).trans rfl))
  go_region_held3 (fun w' => w'.cell? ⟨w7.heap.size, 0, none⟩ = some (.int .i64 a1_0) ∧ w'.cell? ⟨w7.heap.size, 1, none⟩ = some (.int .i64 a1_1) ∧ w'.cell? ⟨w7.heap.size, 2, none⟩ = some (.slice Az86 (cvL l1_2).length cz86) ∧ w'.cell? ⟨w.heap.size, 0, none⟩ = some (.int .i64 a1_0) ∧ w'.cell? ⟨w.heap.size, 1, none⟩ = some (.int .i64 a1_1) ∧ w'.cell? ⟨w.heap.size, 2, none⟩ = some (.slice A1_2 l1_2.length c1_2)) (first | ((repeat' apply And.intro) <;> assumption) | go_keep) (first | (go_at_call 14; (with_reducible refine (laws_toGate.calls k a1_0 a1_1 _ _ l1_2 a1_0 a1_1 (cvL l1_2) _ ?side1 ?side2 A172.out).mono ?_); (case side1 => exact Kd.C_below HR1_2.out (by repeat (first | (with_reducible first | exact HB.out | apply below_alloc | apply pw_below_drewN | apply below_drew1) | exact HB.out))); (case side2 => exact HC1_2.out); rintro e w11 ⟨v100_, rfl, ho0_, hb⟩; have n1_ := Aside0.mk (Kd.G_below (by (with_reducible repeat (first | apply Kd.G_alloc | apply Kd.G_drewN | apply Kd.G_drew)); exact HO57.out) hb); have n2_ := Aside0.mk (Kd.G_below (by (with_reducible repeat (first | apply Kd.G_alloc | apply Kd.G_drewN | apply Kd.G_drew)); exact HO85.out) hb); have n3_ := Aside0.mk (Kd.G_below (by (with_reducible repeat (first | apply Kd.G_alloc | apply Kd.G_drewN | apply Kd.G_drew)); exact HO102.out) hb); have n4_ := Aside0.mk (Kd.G_below (by (with_reducible repeat (first | apply Kd.G_alloc | apply Kd.G_drewN | apply Kd.G_drew)); exact HO123.out) hb); have n5_ := Aside0.mk (blk_below (g := w.heap.size) (o := .cells #[.int .i64 a1_0, .int .i64 a1_1, .slice A1_2 l1_2.length c1_2] 24 (0, 0)) (by (with_reducible repeat (first | refine blk_drewN ?_ _ | refine blk_drew ?_ | refine blk_alloc ?_ _)); exact HX1.out) hb); have n6_ := Aside0.mk (blk_below (g := w.heap.size + 1) (o := .cells #[.int .i64 a3_0, .int .i64 a3_1, .slice A3_2 l3_2.length c3_2] 24 (0, 0)) (by (with_reducible repeat (first | refine blk_drewN ?_ _ | refine blk_drew ?_ | refine blk_alloc ?_ _)); exact HX2.out) hb); have n7_ := Aside0.mk (blk_below (g := gC68) (o := .cells #[.int .i64 r51, .int .i64 r52, .slice Az58 r53.length cz58] 29 (0, 0)) (by (with_reducible repeat (first | refine blk_drewN ?_ _ | refine blk_drew ?_ | refine blk_alloc ?_ _)); exact HX67.out) hb); have n8_ := Aside0.mk (blk_below (g := w7.heap.size) (o := .cells #[.int .i64 a1_0, .int .i64 a1_1, .slice Az86 (cvL l1_2).length cz86] 29 (0, 0)) (by (with_reducible repeat (first | refine blk_drewN ?_ _ | refine blk_drew ?_ | refine blk_alloc ?_ _)); exact HX99.out) hb); have n9_ := Aside0.mk (blk_below (g := w8.heap.size) (o := .cells #[.int .i64 a3_0, .int .i64 a3_1, .slice Az103 (cvL l3_2).length cz103] 29 (0, 0)) (by (with_reducible repeat (first | refine blk_drewN ?_ _ | refine blk_drew ?_ | refine blk_alloc ?_ _)); exact HX120.out) hb); have n10_ := Aside0.mk (blk_below (g := w9.heap.size) (o := .cells #[.int .i64 r51, .int .i64 r52, .slice Az124 r53.length cz124] 29 (0, 0)) (by (with_reducible repeat (first | refine blk_drewN ?_ _ | refine blk_drew ?_ | refine blk_alloc ?_ _)); exact HX145.out) hb); have n11_ := Aside0.mk (below_step (by repeat (first | (with_reducible first | exact HB.out | apply below_alloc | apply pw_below_drewN | apply below_drew1) | exact HB.out)) hb); have C173 : Aside0 (w10.heap.size ≤ w11.heap.size) := ⟨by have h_ := hb.size; (try simp at h_); omega⟩; have CCn_ := Aside0.mk (And.intro CC.out C173.out); clear CC; have CC := CCn_; clear CCn_; clear HO57; clear HO85; clear HO102; clear HO123; clear HX1; clear HX2; clear HX67; clear HX99; clear HX120; clear HX145; clear HB; clear hl148; clear hx149; clear hx150; clear hx151; clear hl152; clear hx153; clear hx154; clear hx155; clear hl156; clear hx157; clear hx158; clear hx159; clear hl160; clear hx161; clear hx162; clear hx163; clear hl164; clear hx165; clear hx166; clear hx167; clear hl168; clear hx169; clear hx170; clear hx171; have HO57 := n1_; clear n1_; have HO85 := n2_; clear n2_; have HO102 := n3_; clear n3_; have HO123 := n4_; clear n4_; have HX1 := n5_; clear n5_; have HX2 := n6_; clear n6_; have HX67 := n7_; clear n7_; have HX99 := n8_; clear n8_; have HX120 := n9_; clear n9_; have HX145 := n10_; clear n10_; have HB := n11_; clear n11_; have HO174 := Aside0.mk (Kd.G_lower (base' := w.heap.size) (Kd.G_mono (Kd.G_bound ho0_) (ok' := fun k_ => w10.heap.size ≤ k_ ∧ k_ < w11.heap.size) (fun k_ hk_ => ⟨by have h_ := hk_.2.1; (try simp at h_); omega, hk_.2.2.1⟩)) (by have := CC.out; first | omega | (simp; done) | (simp; omega))); obtain ⟨Az175, cz175, ez175⟩ := Kd.G_slice HO174.out; subst ez175; (try clear hb); (try clear ho0_); have hl176 : w.heap.size < w11.heap.size := blk_lt HX1.out; have hx177 : w11.cell? ⟨w.heap.size, 0, none⟩ = some (.int .i64 a1_0) := (blk_cell HX1.out 0).trans rfl; have hx178 : w11.cell? ⟨w.heap.size, 1, none⟩ = some (.int .i64 a1_1) := (blk_cell HX1.out 1).trans rfl; have hx179 : w11.cell? ⟨w.heap.size, 2, none⟩ = some (.slice A1_2 l1_2.length c1_2) := (blk_cell HX1.out 2).trans rfl; have hl180 : w.heap.size + 1 < w11.heap.size := blk_lt HX2.out; have hx181 : w11.cell? ⟨w.heap.size + 1, 0, none⟩ = some (.int .i64 a3_0) := (blk_cell HX2.out 0).trans rfl; have hx182 : w11.cell? ⟨w.heap.size + 1, 1, none⟩ = some (.int .i64 a3_1) := (blk_cell HX2.out 1).trans rfl; have hx183 : w11.cell? ⟨w.heap.size + 1, 2, none⟩ = some (.slice A3_2 l3_2.length c3_2) := (blk_cell HX2.out 2).trans rfl; have hl184 : gC68 < w11.heap.size := blk_lt HX67.out; have hx185 : w11.cell? ⟨gC68, 0, none⟩ = some (.int .i64 r51) := (blk_cell HX67.out 0).trans rfl; have hx186 : w11.cell? ⟨gC68, 1, none⟩ = some (.int .i64 r52) := (blk_cell HX67.out 1).trans rfl; have hx187 : w11.cell? ⟨gC68, 2, none⟩ = some (.slice Az58 r53.length cz58) := (blk_cell HX67.out 2).trans rfl; have hl188 : w7.heap.size < w11.heap.size := blk_lt HX99.out; have hx189 : w11.cell? ⟨w7.heap.size, 0, none⟩ = some (.int .i64 a1_0) := (blk_cell HX99.out 0).trans rfl; have hx190 : w11.cell? ⟨w7.heap.size, 1, none⟩ = some (.int .i64 a1_1) := (blk_cell HX99.out 1).trans rfl; have hx191 : w11.cell? ⟨w7.heap.size, 2, none⟩ = some (.slice Az86 (cvL l1_2).length cz86) := (blk_cell HX99.out 2).trans rfl; have hl192 : w8.heap.size < w11.heap.size := blk_lt HX120.out; have hx193 : w11.cell? ⟨w8.heap.size, 0, none⟩ = some (.int .i64 a3_0) := (blk_cell HX120.out 0).trans rfl; have hx194 : w11.cell? ⟨w8.heap.size, 1, none⟩ = some (.int .i64 a3_1) := (blk_cell HX120.out 1).trans rfl; have hx195 : w11.cell? ⟨w8.heap.size, 2, none⟩ = some (.slice Az103 (cvL l3_2).length cz103) := (blk_cell HX120.out 2).trans rfl; have hl196 : w9.heap.size < w11.heap.size := blk_lt HX145.out; have hx197 : w11.cell? ⟨w9.heap.size, 0, none⟩ = some (.int .i64 r51) := (blk_cell HX145.out 0).trans rfl; have hx198 : w11.cell? ⟨w9.heap.size, 1, none⟩ = some (.int .i64 r52) := (blk_cell HX145.out 1).trans rfl; have hx199 : w11.cell? ⟨w9.heap.size, 2, none⟩ = some (.slice Az124 r53.length cz124) := (blk_cell HX145.out 2).trans rfl) | (go_at_call 16; (with_reducible refine (laws_eqGate.calls k a1_0 a1_1 _ _ (cvL l1_2) a1_0 a1_1 _ _ (cvL l1_2) true _ ?side1 ?side2 ?side3 ?side4 A200.out).mono ?_); (case side1 => exact (Kd.G_reads' (n := (cvL l1_2).length) (A := Az86) (c := cz86) (by (with_reducible repeat (first | apply Kd.G_alloc | apply Kd.G_drewN | apply Kd.G_drew)); exact HO85.out)).2.2); (case side2 => exact (Kd.G_reads' (n := (cvL l1_2).length) (A := Az86) (c := cz86) HO85.out).2.1); (case side3 => exact (Kd.G_reads' (n := (cvL l1_2).length) (A := Az175) (c := cz175) (by (with_reducible repeat (first | apply Kd.G_alloc | apply Kd.G_drewN | apply Kd.G_drew)); exact HO174.out)).2.2); (case side4 => exact (Kd.G_reads' (n := (cvL l1_2).length) (A := Az175) (c := cz175) HO174.out).2.1); rintro e w12 ⟨rfl, hb⟩; have n1_ := Aside0.mk (Kd.G_below (by (with_reducible repeat (first | apply Kd.G_alloc | apply Kd.G_drewN | apply Kd.G_drew)); exact HO57.out) hb); have n2_ := Aside0.mk (Kd.G_below (by (with_reducible repeat (first | apply Kd.G_alloc | apply Kd.G_drewN | apply Kd.G_drew)); exact HO85.out) hb); have n3_ := Aside0.mk (Kd.G_below (by (with_reducible repeat (first | apply Kd.G_alloc | apply Kd.G_drewN | apply Kd.G_drew)); exact HO102.out) hb); have n4_ := Aside0.mk (Kd.G_below (by (with_reducible repeat (first | apply Kd.G_alloc | apply Kd.G_drewN | apply Kd.G_drew)); exact HO123.out) hb); have n5_ := Aside0.mk (Kd.G_below (by (with_reducible repeat (first | apply Kd.G_alloc | apply Kd.G_drewN | apply Kd.G_drew)); exact HO174.out) hb); have n6_ := Aside0.mk (blk_below (g := w.heap.size) (o := .cells #[.int .i64 a1_0, .int .i64 a1_1, .slice A1_2 l1_2.length c1_2] 24 (0, 0)) (by (with_reducible repeat (first | refine blk_drewN ?_ _ | refine blk_drew ?_ | refine blk_alloc ?_ _)); exact HX1.out) hb); have n7_ := Aside0.mk (blk_below (g := w.heap.size + 1) (o := .cells #[.int .i64 a3_0, .int .i64 a3_1, .slice A3_2 l3_2.length c3_2] 24 (0, 0)) (by (with_reducible repeat (first | refine blk_drewN ?_ _ | refine blk_drew ?_ | refine blk_alloc ?_ _)); exact HX2.out) hb); have n8_ := Aside0.mk (blk_below (g := gC68) (o := .cells #[.int .i64 r51, .int .i64 r52, .slice Az58 r53.length cz58] 29 (0, 0)) (by (with_reducible repeat (first | refine blk_drewN ?_ _ | refine blk_drew ?_ | refine blk_alloc ?_ _)); exact HX67.out) hb); have n9_ := Aside0.mk (blk_below (g := w7.heap.size) (o := .cells #[.int .i64 a1_0, .int .i64 a1_1, .slice Az86 (cvL l1_2).length cz86] 29 (0, 0)) (by (with_reducible repeat (first | refine blk_drewN ?_ _ | refine blk_drew ?_ | refine blk_alloc ?_ _)); exact HX99.out) hb); have n10_ := Aside0.mk (blk_below (g := w8.heap.size) (o := .cells #[.int .i64 a3_0, .int .i64 a3_1, .slice Az103 (cvL l3_2).length cz103] 29 (0, 0)) (by (with_reducible repeat (first | refine blk_drewN ?_ _ | refine blk_drew ?_ | refine blk_alloc ?_ _)); exact HX120.out) hb); have n11_ := Aside0.mk (blk_below (g := w9.heap.size) (o := .cells #[.int .i64 r51, .int .i64 r52, .slice Az124 r53.length cz124] 29 (0, 0)) (by (with_reducible repeat (first | refine blk_drewN ?_ _ | refine blk_drew ?_ | refine blk_alloc ?_ _)); exact HX145.out) hb); have n12_ := Aside0.mk (below_step (by repeat (first | (with_reducible first | exact HB.out | apply below_alloc | apply pw_below_drewN | apply below_drew1) | exact HB.out)) hb); have C201 : Aside0 (w11.heap.size ≤ w12.heap.size) := ⟨by have h_ := hb.size; (try simp at h_); omega⟩; have CCn_ := Aside0.mk (And.intro CC.out C201.out); clear CC; have CC := CCn_; clear CCn_; clear HO57; clear HO85; clear HO102; clear HO123; clear HO174; clear HX1; clear HX2; clear HX67; clear HX99; clear HX120; clear HX145; clear HB; clear hl176; clear hx177; clear hx178; clear hx179; clear hl180; clear hx181; clear hx182; clear hx183; clear hl184; clear hx185; clear hx186; clear hx187; clear hl188; clear hx189; clear hx190; clear hx191; clear hl192; clear hx193; clear hx194; clear hx195; clear hl196; clear hx197; clear hx198; clear hx199; have HO57 := n1_; clear n1_; have HO85 := n2_; clear n2_; have HO102 := n3_; clear n3_; have HO123 := n4_; clear n4_; have HO174 := n5_; clear n5_; have HX1 := n6_; clear n6_; have HX2 := n7_; clear n7_; have HX67 := n8_; clear n8_; have HX99 := n9_; clear n9_; have HX120 := n10_; clear n10_; have HX145 := n11_; clear n11_; have HB := n12_; clear n12_; (try clear hb); have hl202 : w.heap.size < w12.heap.size := blk_lt HX1.out; have hx203 : w12.cell? ⟨w.heap.size, 0, none⟩ = some (.int .i64 a1_0) := (blk_cell HX1.out 0).trans rfl; have hx204 : w12.cell? ⟨w.heap.size, 1, none⟩ = some (.int .i64 a1_1) := (blk_cell HX1.out 1).trans rfl; have hx205 : w12.cell? ⟨w.heap.size, 2, none⟩ = some (.slice A1_2 l1_2.length c1_2) := (blk_cell HX1.out 2).trans rfl; have hl206 : w.heap.size + 1 < w12.heap.size := blk_lt HX2.out; have hx207 : w12.cell? ⟨w.heap.size + 1, 0, none⟩ = some (.int .i64 a3_0) := (blk_cell HX2.out 0).trans rfl; have hx208 : w12.cell? ⟨w.heap.size + 1, 1, none⟩ = some (.int .i64 a3_1) := (blk_cell HX2.out 1).trans rfl; have hx209 : w12.cell? ⟨w.heap.size + 1, 2, none⟩ = some (.slice A3_2 l3_2.length c3_2) := (blk_cell HX2.out 2).trans rfl; have hl210 : gC68 < w12.heap.size := blk_lt HX67.out; have hx211 : w12.cell? ⟨gC68, 0, none⟩ = some (.int .i64 r51) := (blk_cell HX67.out 0).trans rfl; have hx212 : w12.cell? ⟨gC68, 1, none⟩ = some (.int .i64 r52) := (blk_cell HX67.out 1).trans rfl; have hx213 : w12.cell? ⟨gC68, 2, none⟩ = some (.slice Az58 r53.length cz58) := (blk_cell HX67.out 2).trans rfl; have hl214 : w7.heap.size < w12.heap.size := blk_lt HX99.out; have hx215 : w12.cell? ⟨w7.heap.size, 0, none⟩ = some (.int .i64 a1_0) := (blk_cell HX99.out 0).trans rfl; have hx216 : w12.cell? ⟨w7.heap.size, 1, none⟩ = some (.int .i64 a1_1) := (blk_cell HX99.out 1).trans rfl; have hx217 : w12.cell? ⟨w7.heap.size, 2, none⟩ = some (.slice Az86 (cvL l1_2).length cz86) := (blk_cell HX99.out 2).trans rfl; have hl218 : w8.heap.size < w12.heap.size := blk_lt HX120.out; have hx219 : w12.cell? ⟨w8.heap.size, 0, none⟩ = some (.int .i64 a3_0) := (blk_cell HX120.out 0).trans rfl; have hx220 : w12.cell? ⟨w8.heap.size, 1, none⟩ = some (.int .i64 a3_1) := (blk_cell HX120.out 1).trans rfl; have hx221 : w12.cell? ⟨w8.heap.size, 2, none⟩ = some (.slice Az103 (cvL l3_2).length cz103) := (blk_cell HX120.out 2).trans rfl; have hl222 : w9.heap.size < w12.heap.size := blk_lt HX145.out; have hx223 : w12.cell? ⟨w9.heap.size, 0, none⟩ = some (.int .i64 r51) := (blk_cell HX145.out 0).trans rfl; have hx224 : w12.cell? ⟨w9.heap.size, 1, none⟩ = some (.int .i64 r52) := (blk_cell HX145.out 1).trans rfl; have hx225 : w12.cell? ⟨w9.heap.size, 2, none⟩ = some (.slice Az124 r53.length cz124) := (blk_cell HX145.out 2).trans rfl))
  go_wp2
  go_region_held3 (fun w' => w'.cell? ⟨w8.heap.size, 0, none⟩ = some (.int .i64 a3_0) ∧ w'.cell? ⟨w8.heap.size, 1, none⟩ = some (.int .i64 a3_1) ∧ w'.cell? ⟨w8.heap.size, 2, none⟩ = some (.slice Az103 (cvL l3_2).length cz103) ∧ w'.cell? ⟨w.heap.size + 1, 0, none⟩ = some (.int .i64 a3_0) ∧ w'.cell? ⟨w.heap.size + 1, 1, none⟩ = some (.int .i64 a3_1) ∧ w'.cell? ⟨w.heap.size + 1, 2, none⟩ = some (.slice A3_2 l3_2.length c3_2)) (first | ((repeat' apply And.intro) <;> assumption) | go_keep) (first | (go_at_call 14; (with_reducible refine (laws_toGate.calls k a3_0 a3_1 _ _ l3_2 a3_0 a3_1 (cvL l3_2) _ ?side1 ?side2 A226.out).mono ?_); (case side1 => exact Kd.C_below HR3_2.out (by repeat (first | (with_reducible first | exact HB.out | apply below_alloc | apply pw_below_drewN | apply below_drew1) | exact HB.out))); (case side2 => exact HC3_2.out); rintro e w13 ⟨v100_, rfl, ho0_, hb⟩; have n1_ := Aside0.mk (Kd.G_below (by (with_reducible repeat (first | apply Kd.G_alloc | apply Kd.G_drewN | apply Kd.G_drew)); exact HO57.out) hb); have n2_ := Aside0.mk (Kd.G_below (by (with_reducible repeat (first | apply Kd.G_alloc | apply Kd.G_drewN | apply Kd.G_drew)); exact HO85.out) hb); have n3_ := Aside0.mk (Kd.G_below (by (with_reducible repeat (first | apply Kd.G_alloc | apply Kd.G_drewN | apply Kd.G_drew)); exact HO102.out) hb); have n4_ := Aside0.mk (Kd.G_below (by (with_reducible repeat (first | apply Kd.G_alloc | apply Kd.G_drewN | apply Kd.G_drew)); exact HO123.out) hb); have n5_ := Aside0.mk (blk_below (g := w.heap.size) (o := .cells #[.int .i64 a1_0, .int .i64 a1_1, .slice A1_2 l1_2.length c1_2] 24 (0, 0)) (by (with_reducible repeat (first | refine blk_drewN ?_ _ | refine blk_drew ?_ | refine blk_alloc ?_ _)); exact HX1.out) hb); have n6_ := Aside0.mk (blk_below (g := w.heap.size + 1) (o := .cells #[.int .i64 a3_0, .int .i64 a3_1, .slice A3_2 l3_2.length c3_2] 24 (0, 0)) (by (with_reducible repeat (first | refine blk_drewN ?_ _ | refine blk_drew ?_ | refine blk_alloc ?_ _)); exact HX2.out) hb); have n7_ := Aside0.mk (blk_below (g := gC68) (o := .cells #[.int .i64 r51, .int .i64 r52, .slice Az58 r53.length cz58] 29 (0, 0)) (by (with_reducible repeat (first | refine blk_drewN ?_ _ | refine blk_drew ?_ | refine blk_alloc ?_ _)); exact HX67.out) hb); have n8_ := Aside0.mk (blk_below (g := w7.heap.size) (o := .cells #[.int .i64 a1_0, .int .i64 a1_1, .slice Az86 (cvL l1_2).length cz86] 29 (0, 0)) (by (with_reducible repeat (first | refine blk_drewN ?_ _ | refine blk_drew ?_ | refine blk_alloc ?_ _)); exact HX99.out) hb); have n9_ := Aside0.mk (blk_below (g := w8.heap.size) (o := .cells #[.int .i64 a3_0, .int .i64 a3_1, .slice Az103 (cvL l3_2).length cz103] 29 (0, 0)) (by (with_reducible repeat (first | refine blk_drewN ?_ _ | refine blk_drew ?_ | refine blk_alloc ?_ _)); exact HX120.out) hb); have n10_ := Aside0.mk (blk_below (g := w9.heap.size) (o := .cells #[.int .i64 r51, .int .i64 r52, .slice Az124 r53.length cz124] 29 (0, 0)) (by (with_reducible repeat (first | refine blk_drewN ?_ _ | refine blk_drew ?_ | refine blk_alloc ?_ _)); exact HX145.out) hb); have n11_ := Aside0.mk (below_step (by repeat (first | (with_reducible first | exact HB.out | apply below_alloc | apply pw_below_drewN | apply below_drew1) | exact HB.out)) hb); have C227 : Aside0 (w12.heap.size ≤ w13.heap.size) := ⟨by have h_ := hb.size; (try simp at h_); omega⟩; have CCn_ := Aside0.mk (And.intro CC.out C227.out); clear CC; have CC := CCn_; clear CCn_; clear HO57; clear HO85; clear HO102; clear HO123; clear HX1; clear HX2; clear HX67; clear HX99; clear HX120; clear HX145; clear HB; clear hl202; clear hx203; clear hx204; clear hx205; clear hl206; clear hx207; clear hx208; clear hx209; clear hl210; clear hx211; clear hx212; clear hx213; clear hl214; clear hx215; clear hx216; clear hx217; clear hl218; clear hx219; clear hx220; clear hx221; clear hl222; clear hx223; clear hx224; clear hx225; have HO57 := n1_; clear n1_; have HO85 := n2_; clear n2_; have HO102 := n3_; clear n3_; have HO123 := n4_; clear n4_; have HX1 := n5_; clear n5_; have HX2 := n6_; clear n6_; have HX67 := n7_; clear n7_; have HX99 := n8_; clear n8_; have HX120 := n9_; clear n9_; have HX145 := n10_; clear n10_; have HB := n11_; clear n11_; have HO228 := Aside0.mk (Kd.G_lower (base' := w.heap.size) (Kd.G_mono (Kd.G_bound ho0_) (ok' := fun k_ => w12.heap.size ≤ k_ ∧ k_ < w13.heap.size) (fun k_ hk_ => ⟨by have h_ := hk_.2.1; (try simp at h_); omega, hk_.2.2.1⟩)) (by have := CC.out; first | omega | (simp; done) | (simp; omega))); obtain ⟨Az229, cz229, ez229⟩ := Kd.G_slice HO228.out; subst ez229; (try clear hb); (try clear ho0_); have hl230 : w.heap.size < w13.heap.size := blk_lt HX1.out; have hx231 : w13.cell? ⟨w.heap.size, 0, none⟩ = some (.int .i64 a1_0) := (blk_cell HX1.out 0).trans rfl; have hx232 : w13.cell? ⟨w.heap.size, 1, none⟩ = some (.int .i64 a1_1) := (blk_cell HX1.out 1).trans rfl; have hx233 : w13.cell? ⟨w.heap.size, 2, none⟩ = some (.slice A1_2 l1_2.length c1_2) := (blk_cell HX1.out 2).trans rfl; have hl234 : w.heap.size + 1 < w13.heap.size := blk_lt HX2.out; have hx235 : w13.cell? ⟨w.heap.size + 1, 0, none⟩ = some (.int .i64 a3_0) := (blk_cell HX2.out 0).trans rfl; have hx236 : w13.cell? ⟨w.heap.size + 1, 1, none⟩ = some (.int .i64 a3_1) := (blk_cell HX2.out 1).trans rfl; have hx237 : w13.cell? ⟨w.heap.size + 1, 2, none⟩ = some (.slice A3_2 l3_2.length c3_2) := (blk_cell HX2.out 2).trans rfl; have hl238 : gC68 < w13.heap.size := blk_lt HX67.out; have hx239 : w13.cell? ⟨gC68, 0, none⟩ = some (.int .i64 r51) := (blk_cell HX67.out 0).trans rfl; have hx240 : w13.cell? ⟨gC68, 1, none⟩ = some (.int .i64 r52) := (blk_cell HX67.out 1).trans rfl; have hx241 : w13.cell? ⟨gC68, 2, none⟩ = some (.slice Az58 r53.length cz58) := (blk_cell HX67.out 2).trans rfl; have hl242 : w7.heap.size < w13.heap.size := blk_lt HX99.out; have hx243 : w13.cell? ⟨w7.heap.size, 0, none⟩ = some (.int .i64 a1_0) := (blk_cell HX99.out 0).trans rfl; have hx244 : w13.cell? ⟨w7.heap.size, 1, none⟩ = some (.int .i64 a1_1) := (blk_cell HX99.out 1).trans rfl; have hx245 : w13.cell? ⟨w7.heap.size, 2, none⟩ = some (.slice Az86 (cvL l1_2).length cz86) := (blk_cell HX99.out 2).trans rfl; have hl246 : w8.heap.size < w13.heap.size := blk_lt HX120.out; have hx247 : w13.cell? ⟨w8.heap.size, 0, none⟩ = some (.int .i64 a3_0) := (blk_cell HX120.out 0).trans rfl; have hx248 : w13.cell? ⟨w8.heap.size, 1, none⟩ = some (.int .i64 a3_1) := (blk_cell HX120.out 1).trans rfl; have hx249 : w13.cell? ⟨w8.heap.size, 2, none⟩ = some (.slice Az103 (cvL l3_2).length cz103) := (blk_cell HX120.out 2).trans rfl; have hl250 : w9.heap.size < w13.heap.size := blk_lt HX145.out; have hx251 : w13.cell? ⟨w9.heap.size, 0, none⟩ = some (.int .i64 r51) := (blk_cell HX145.out 0).trans rfl; have hx252 : w13.cell? ⟨w9.heap.size, 1, none⟩ = some (.int .i64 r52) := (blk_cell HX145.out 1).trans rfl; have hx253 : w13.cell? ⟨w9.heap.size, 2, none⟩ = some (.slice Az124 r53.length cz124) := (blk_cell HX145.out 2).trans rfl) | (go_at_call 16; (with_reducible refine (laws_eqGate.calls k a3_0 a3_1 _ _ (cvL l3_2) a3_0 a3_1 _ _ (cvL l3_2) true _ ?side1 ?side2 ?side3 ?side4 A254.out).mono ?_); (case side1 => exact (Kd.G_reads' (n := (cvL l3_2).length) (A := Az103) (c := cz103) (by (with_reducible repeat (first | apply Kd.G_alloc | apply Kd.G_drewN | apply Kd.G_drew)); exact HO102.out)).2.2); (case side2 => exact (Kd.G_reads' (n := (cvL l3_2).length) (A := Az103) (c := cz103) HO102.out).2.1); (case side3 => exact (Kd.G_reads' (n := (cvL l3_2).length) (A := Az229) (c := cz229) (by (with_reducible repeat (first | apply Kd.G_alloc | apply Kd.G_drewN | apply Kd.G_drew)); exact HO228.out)).2.2); (case side4 => exact (Kd.G_reads' (n := (cvL l3_2).length) (A := Az229) (c := cz229) HO228.out).2.1); rintro e w14 ⟨rfl, hb⟩; have n1_ := Aside0.mk (Kd.G_below (by (with_reducible repeat (first | apply Kd.G_alloc | apply Kd.G_drewN | apply Kd.G_drew)); exact HO57.out) hb); have n2_ := Aside0.mk (Kd.G_below (by (with_reducible repeat (first | apply Kd.G_alloc | apply Kd.G_drewN | apply Kd.G_drew)); exact HO85.out) hb); have n3_ := Aside0.mk (Kd.G_below (by (with_reducible repeat (first | apply Kd.G_alloc | apply Kd.G_drewN | apply Kd.G_drew)); exact HO102.out) hb); have n4_ := Aside0.mk (Kd.G_below (by (with_reducible repeat (first | apply Kd.G_alloc | apply Kd.G_drewN | apply Kd.G_drew)); exact HO123.out) hb); have n5_ := Aside0.mk (Kd.G_below (by (with_reducible repeat (first | apply Kd.G_alloc | apply Kd.G_drewN | apply Kd.G_drew)); exact HO228.out) hb); have n6_ := Aside0.mk (blk_below (g := w.heap.size) (o := .cells #[.int .i64 a1_0, .int .i64 a1_1, .slice A1_2 l1_2.length c1_2] 24 (0, 0)) (by (with_reducible repeat (first | refine blk_drewN ?_ _ | refine blk_drew ?_ | refine blk_alloc ?_ _)); exact HX1.out) hb); have n7_ := Aside0.mk (blk_below (g := w.heap.size + 1) (o := .cells #[.int .i64 a3_0, .int .i64 a3_1, .slice A3_2 l3_2.length c3_2] 24 (0, 0)) (by (with_reducible repeat (first | refine blk_drewN ?_ _ | refine blk_drew ?_ | refine blk_alloc ?_ _)); exact HX2.out) hb); have n8_ := Aside0.mk (blk_below (g := gC68) (o := .cells #[.int .i64 r51, .int .i64 r52, .slice Az58 r53.length cz58] 29 (0, 0)) (by (with_reducible repeat (first | refine blk_drewN ?_ _ | refine blk_drew ?_ | refine blk_alloc ?_ _)); exact HX67.out) hb); have n9_ := Aside0.mk (blk_below (g := w7.heap.size) (o := .cells #[.int .i64 a1_0, .int .i64 a1_1, .slice Az86 (cvL l1_2).length cz86] 29 (0, 0)) (by (with_reducible repeat (first | refine blk_drewN ?_ _ | refine blk_drew ?_ | refine blk_alloc ?_ _)); exact HX99.out) hb); have n10_ := Aside0.mk (blk_below (g := w8.heap.size) (o := .cells #[.int .i64 a3_0, .int .i64 a3_1, .slice Az103 (cvL l3_2).length cz103] 29 (0, 0)) (by (with_reducible repeat (first | refine blk_drewN ?_ _ | refine blk_drew ?_ | refine blk_alloc ?_ _)); exact HX120.out) hb); have n11_ := Aside0.mk (blk_below (g := w9.heap.size) (o := .cells #[.int .i64 r51, .int .i64 r52, .slice Az124 r53.length cz124] 29 (0, 0)) (by (with_reducible repeat (first | refine blk_drewN ?_ _ | refine blk_drew ?_ | refine blk_alloc ?_ _)); exact HX145.out) hb); have n12_ := Aside0.mk (below_step (by repeat (first | (with_reducible first | exact HB.out | apply below_alloc | apply pw_below_drewN | apply below_drew1) | exact HB.out)) hb); have C255 : Aside0 (w13.heap.size ≤ w14.heap.size) := ⟨by have h_ := hb.size; (try simp at h_); omega⟩; have CCn_ := Aside0.mk (And.intro CC.out C255.out); clear CC; have CC := CCn_; clear CCn_; clear HO57; clear HO85; clear HO102; clear HO123; clear HO228; clear HX1; clear HX2; clear HX67; clear HX99; clear HX120; clear HX145; clear HB; clear hl230; clear hx231; clear hx232; clear hx233; clear hl234; clear hx235; clear hx236; clear hx237; clear hl238; clear hx239; clear hx240; clear hx241; clear hl242; clear hx243; clear hx244; clear hx245; clear hl246; clear hx247; clear hx248; clear hx249; clear hl250; clear hx251; clear hx252; clear hx253; have HO57 := n1_; clear n1_; have HO85 := n2_; clear n2_; have HO102 := n3_; clear n3_; have HO123 := n4_; clear n4_; have HO228 := n5_; clear n5_; have HX1 := n6_; clear n6_; have HX2 := n7_; clear n7_; have HX67 := n8_; clear n8_; have HX99 := n9_; clear n9_; have HX120 := n10_; clear n10_; have HX145 := n11_; clear n11_; have HB := n12_; clear n12_; (try clear hb); have hl256 : w.heap.size < w14.heap.size := blk_lt HX1.out; have hx257 : w14.cell? ⟨w.heap.size, 0, none⟩ = some (.int .i64 a1_0) := (blk_cell HX1.out 0).trans rfl; have hx258 : w14.cell? ⟨w.heap.size, 1, none⟩ = some (.int .i64 a1_1) := (blk_cell HX1.out 1).trans rfl; have hx259 : w14.cell? ⟨w.heap.size, 2, none⟩ = some (.slice A1_2 l1_2.length c1_2) := (blk_cell HX1.out 2).trans rfl; have hl260 : w.heap.size + 1 < w14.heap.size := blk_lt HX2.out; have hx261 : w14.cell? ⟨w.heap.size + 1, 0, none⟩ = some (.int .i64 a3_0) := (blk_cell HX2.out 0).trans rfl; have hx262 : w14.cell? ⟨w.heap.size + 1, 1, none⟩ = some (.int .i64 a3_1) := (blk_cell HX2.out 1).trans rfl; have hx263 : w14.cell? ⟨w.heap.size + 1, 2, none⟩ = some (.slice A3_2 l3_2.length c3_2) := (blk_cell HX2.out 2).trans rfl; have hl264 : gC68 < w14.heap.size := blk_lt HX67.out; have hx265 : w14.cell? ⟨gC68, 0, none⟩ = some (.int .i64 r51) := (blk_cell HX67.out 0).trans rfl; have hx266 : w14.cell? ⟨gC68, 1, none⟩ = some (.int .i64 r52) := (blk_cell HX67.out 1).trans rfl; have hx267 : w14.cell? ⟨gC68, 2, none⟩ = some (.slice Az58 r53.length cz58) := (blk_cell HX67.out 2).trans rfl; have hl268 : w7.heap.size < w14.heap.size := blk_lt HX99.out; have hx269 : w14.cell? ⟨w7.heap.size, 0, none⟩ = some (.int .i64 a1_0) := (blk_cell HX99.out 0).trans rfl; have hx270 : w14.cell? ⟨w7.heap.size, 1, none⟩ = some (.int .i64 a1_1) := (blk_cell HX99.out 1).trans rfl; have hx271 : w14.cell? ⟨w7.heap.size, 2, none⟩ = some (.slice Az86 (cvL l1_2).length cz86) := (blk_cell HX99.out 2).trans rfl; have hl272 : w8.heap.size < w14.heap.size := blk_lt HX120.out; have hx273 : w14.cell? ⟨w8.heap.size, 0, none⟩ = some (.int .i64 a3_0) := (blk_cell HX120.out 0).trans rfl; have hx274 : w14.cell? ⟨w8.heap.size, 1, none⟩ = some (.int .i64 a3_1) := (blk_cell HX120.out 1).trans rfl; have hx275 : w14.cell? ⟨w8.heap.size, 2, none⟩ = some (.slice Az103 (cvL l3_2).length cz103) := (blk_cell HX120.out 2).trans rfl; have hl276 : w9.heap.size < w14.heap.size := blk_lt HX145.out; have hx277 : w14.cell? ⟨w9.heap.size, 0, none⟩ = some (.int .i64 r51) := (blk_cell HX145.out 0).trans rfl; have hx278 : w14.cell? ⟨w9.heap.size, 1, none⟩ = some (.int .i64 r52) := (blk_cell HX145.out 1).trans rfl; have hx279 : w14.cell? ⟨w9.heap.size, 2, none⟩ = some (.slice Az124 r53.length cz124) := (blk_cell HX145.out 2).trans rfl))
  go_wp2_with (first | ((with_reducible refine gate_callee (f := 23) rfl ?_); refine goesL_ (some 74) rfl rfl Try.func23 (by kernel_rfl) rfl #[.agg #[.int .i64 a1_0, .int .i64 a1_1, .slice Az86 (cvL l1_2).length cz86], .int .i64 1] rfl (by (try simp only [List.map_toArray, List.map_cons, List.map_nil]); first | done | rfl | (simp only [List.length_drop, List.length_take]; rfl)) ?_; (with_reducible refine (laws_markGate.callsM k a1_0 a1_1 (fun k_ => w6.heap.size ≤ k_ ∧ k_ < w7.heap.size) (.slice Az86 (cvL l1_2).length cz86) (cvL l1_2) 1 m280 ys281 w _ ?side1 ?side2 A282.out).mono ?_); (case side1 => repeat (first | (with_reducible first | exact HB.out | apply below_alloc | apply pw_below_drewN | apply below_drew1) | exact HB.out)); (case side2 => exact (by (with_reducible repeat (first | apply Kd.G_alloc | apply Kd.G_drewN | apply Kd.G_drew)); exact HO85.out)); rintro e w15 ⟨rfl, hm0_, hbk, hk⟩; refine ⟨_, rfl, ?_⟩; have n1_ := Aside0.mk (Kd.G_kept (by (with_reducible repeat (first | apply Kd.G_alloc | apply Kd.G_drewN | apply Kd.G_drew)); exact HO57.out) hk (fun k_ hk_ hs_ => by have := CC.out; have h1_ := hk_; have h2_ := hs_; omega)); have n2_ := Aside0.mk (Kd.G_kept (by (with_reducible repeat (first | apply Kd.G_alloc | apply Kd.G_drewN | apply Kd.G_drew)); exact HO102.out) hk (fun k_ hk_ hs_ => by have := CC.out; have h1_ := hk_; have h2_ := hs_; omega)); have n3_ := Aside0.mk (Kd.G_kept (by (with_reducible repeat (first | apply Kd.G_alloc | apply Kd.G_drewN | apply Kd.G_drew)); exact HO123.out) hk (fun k_ hk_ hs_ => by have := CC.out; have h1_ := hk_; have h2_ := hs_; omega)); have n4_ := Aside0.mk (blk_kept (g := w.heap.size) (o := .cells #[.int .i64 a1_0, .int .i64 a1_1, .slice A1_2 l1_2.length c1_2] 24 (0, 0)) (by (with_reducible repeat (first | refine blk_drewN ?_ _ | refine blk_drew ?_ | refine blk_alloc ?_ _)); exact HX1.out) hk (fun hs_ => by have := CC.out; have h2_ := hs_; omega)); have n5_ := Aside0.mk (blk_kept (g := w.heap.size + 1) (o := .cells #[.int .i64 a3_0, .int .i64 a3_1, .slice A3_2 l3_2.length c3_2] 24 (0, 0)) (by (with_reducible repeat (first | refine blk_drewN ?_ _ | refine blk_drew ?_ | refine blk_alloc ?_ _)); exact HX2.out) hk (fun hs_ => by have := CC.out; have h2_ := hs_; omega)); have n6_ := Aside0.mk (blk_kept (g := gC68) (o := .cells #[.int .i64 r51, .int .i64 r52, .slice Az58 r53.length cz58] 29 (0, 0)) (by (with_reducible repeat (first | refine blk_drewN ?_ _ | refine blk_drew ?_ | refine blk_alloc ?_ _)); exact HX67.out) hk (fun hs_ => by have := CC.out; have h2_ := hs_; omega)); have n7_ := Aside0.mk (blk_kept (g := w7.heap.size) (o := .cells #[.int .i64 a1_0, .int .i64 a1_1, .slice Az86 (cvL l1_2).length cz86] 29 (0, 0)) (by (with_reducible repeat (first | refine blk_drewN ?_ _ | refine blk_drew ?_ | refine blk_alloc ?_ _)); exact HX99.out) hk (fun hs_ => by have := CC.out; have h2_ := hs_; omega)); have n8_ := Aside0.mk (blk_kept (g := w8.heap.size) (o := .cells #[.int .i64 a3_0, .int .i64 a3_1, .slice Az103 (cvL l3_2).length cz103] 29 (0, 0)) (by (with_reducible repeat (first | refine blk_drewN ?_ _ | refine blk_drew ?_ | refine blk_alloc ?_ _)); exact HX120.out) hk (fun hs_ => by have := CC.out; have h2_ := hs_; omega)); have n9_ := Aside0.mk (blk_kept (g := w9.heap.size) (o := .cells #[.int .i64 r51, .int .i64 r52, .slice Az124 r53.length cz124] 29 (0, 0)) (by (with_reducible repeat (first | refine blk_drewN ?_ _ | refine blk_drew ?_ | refine blk_alloc ?_ _)); exact HX145.out) hk (fun hs_ => by have := CC.out; have h2_ := hs_; omega)); have n10_ := Aside0.mk (hbk); have C283 : Aside0 (w14.heap.size ≤ w15.heap.size) := ⟨by have h_ := hk.1; (try simp at h_); omega⟩; have CCn_ := Aside0.mk (And.intro CC.out C283.out); clear CC; have CC := CCn_; clear CCn_; clear HO57; clear HO102; clear HO123; clear HX1; clear HX2; clear HX67; clear HX99; clear HX120; clear HX145; clear HB; clear hl256; clear hx257; clear hx258; clear hx259; clear hl260; clear hx261; clear hx262; clear hx263; clear hl264; clear hx265; clear hx266; clear hx267; clear hl268; clear hx269; clear hx270; clear hx271; clear hl272; clear hx273; clear hx274; clear hx275; clear hl276; clear hx277; clear hx278; clear hx279; have HO57 := n1_; clear n1_; have HO102 := n2_; clear n2_; have HO123 := n3_; clear n3_; have HX1 := n4_; clear n4_; have HX2 := n5_; clear n5_; have HX67 := n6_; clear n6_; have HX99 := n7_; clear n7_; have HX120 := n8_; clear n8_; have HX145 := n9_; clear n9_; have HB := n10_; clear n10_; clear HO85; have HO85 := Aside0.mk hm0_; (try clear hk); (try clear hbk); (try clear hm0_); have hl284 : w.heap.size < w15.heap.size := blk_lt HX1.out; have hx285 : w15.cell? ⟨w.heap.size, 0, none⟩ = some (.int .i64 a1_0) := (blk_cell HX1.out 0).trans rfl; have hx286 : w15.cell? ⟨w.heap.size, 1, none⟩ = some (.int .i64 a1_1) := (blk_cell HX1.out 1).trans rfl; have hx287 : w15.cell? ⟨w.heap.size, 2, none⟩ = some (.slice A1_2 l1_2.length c1_2) := (blk_cell HX1.out 2).trans rfl; have hl288 : w.heap.size + 1 < w15.heap.size := blk_lt HX2.out; have hx289 : w15.cell? ⟨w.heap.size + 1, 0, none⟩ = some (.int .i64 a3_0) := (blk_cell HX2.out 0).trans rfl; have hx290 : w15.cell? ⟨w.heap.size + 1, 1, none⟩ = some (.int .i64 a3_1) := (blk_cell HX2.out 1).trans rfl; have hx291 : w15.cell? ⟨w.heap.size + 1, 2, none⟩ = some (.slice A3_2 l3_2.length c3_2) := (blk_cell HX2.out 2).trans rfl; have hl292 : gC68 < w15.heap.size := blk_lt HX67.out; have hx293 : w15.cell? ⟨gC68, 0, none⟩ = some (.int .i64 r51) := (blk_cell HX67.out 0).trans rfl; have hx294 : w15.cell? ⟨gC68, 1, none⟩ = some (.int .i64 r52) := (blk_cell HX67.out 1).trans rfl; have hx295 : w15.cell? ⟨gC68, 2, none⟩ = some (.slice Az58 r53.length cz58) := (blk_cell HX67.out 2).trans rfl; have hl296 : w7.heap.size < w15.heap.size := blk_lt HX99.out; have hx297 : w15.cell? ⟨w7.heap.size, 0, none⟩ = some (.int .i64 a1_0) := (blk_cell HX99.out 0).trans rfl; have hx298 : w15.cell? ⟨w7.heap.size, 1, none⟩ = some (.int .i64 a1_1) := (blk_cell HX99.out 1).trans rfl; have hx299 : w15.cell? ⟨w7.heap.size, 2, none⟩ = some (.slice Az86 (cvL l1_2).length cz86) := (blk_cell HX99.out 2).trans rfl; have hl300 : w8.heap.size < w15.heap.size := blk_lt HX120.out; have hx301 : w15.cell? ⟨w8.heap.size, 0, none⟩ = some (.int .i64 a3_0) := (blk_cell HX120.out 0).trans rfl; have hx302 : w15.cell? ⟨w8.heap.size, 1, none⟩ = some (.int .i64 a3_1) := (blk_cell HX120.out 1).trans rfl; have hx303 : w15.cell? ⟨w8.heap.size, 2, none⟩ = some (.slice Az103 (cvL l3_2).length cz103) := (blk_cell HX120.out 2).trans rfl; have hl304 : w9.heap.size < w15.heap.size := blk_lt HX145.out; have hx305 : w15.cell? ⟨w9.heap.size, 0, none⟩ = some (.int .i64 r51) := (blk_cell HX145.out 0).trans rfl; have hx306 : w15.cell? ⟨w9.heap.size, 1, none⟩ = some (.int .i64 r52) := (blk_cell HX145.out 1).trans rfl; have hx307 : w15.cell? ⟨w9.heap.size, 2, none⟩ = some (.slice Az124 r53.length cz124) := (blk_cell HX145.out 2).trans rfl) | ((with_reducible refine gate_callee (f := 23) rfl ?_); refine goesL_ (some 77) rfl rfl Try.func23 (by kernel_rfl) rfl #[.agg #[.int .i64 a3_0, .int .i64 a3_1, .slice Az103 (cvL l3_2).length cz103], .int .i64 m280] rfl (by (try simp only [List.map_toArray, List.map_cons, List.map_nil]); first | done | rfl | (simp only [List.length_drop, List.length_take]; rfl)) ?_; (with_reducible refine (laws_markGate.callsM k a3_0 a3_1 (fun k_ => w7.heap.size + 1 ≤ k_ ∧ k_ < w8.heap.size) (.slice Az103 (cvL l3_2).length cz103) (cvL l3_2) m280 m308 ys309 w _ ?side1 ?side2 A310.out).mono ?_); (case side1 => repeat (first | (with_reducible first | exact HB.out | apply below_alloc | apply pw_below_drewN | apply below_drew1) | exact HB.out)); (case side2 => exact (by (with_reducible repeat (first | apply Kd.G_alloc | apply Kd.G_drewN | apply Kd.G_drew)); exact HO102.out)); rintro e w16 ⟨rfl, hm0_, hbk, hk⟩; refine ⟨_, rfl, ?_⟩; have n1_ := Aside0.mk (Kd.G_kept (by (with_reducible repeat (first | apply Kd.G_alloc | apply Kd.G_drewN | apply Kd.G_drew)); exact HO57.out) hk (fun k_ hk_ hs_ => by have := CC.out; have h1_ := hk_; have h2_ := hs_; omega)); have n2_ := Aside0.mk (Kd.G_kept (by (with_reducible repeat (first | apply Kd.G_alloc | apply Kd.G_drewN | apply Kd.G_drew)); exact HO85.out) hk (fun k_ hk_ hs_ => by have := CC.out; have h1_ := hk_; have h2_ := hs_; omega)); have n3_ := Aside0.mk (Kd.G_kept (by (with_reducible repeat (first | apply Kd.G_alloc | apply Kd.G_drewN | apply Kd.G_drew)); exact HO123.out) hk (fun k_ hk_ hs_ => by have := CC.out; have h1_ := hk_; have h2_ := hs_; omega)); have n4_ := Aside0.mk (blk_kept (g := w.heap.size) (o := .cells #[.int .i64 a1_0, .int .i64 a1_1, .slice A1_2 l1_2.length c1_2] 24 (0, 0)) (by (with_reducible repeat (first | refine blk_drewN ?_ _ | refine blk_drew ?_ | refine blk_alloc ?_ _)); exact HX1.out) hk (fun hs_ => by have := CC.out; have h2_ := hs_; omega)); have n5_ := Aside0.mk (blk_kept (g := w.heap.size + 1) (o := .cells #[.int .i64 a3_0, .int .i64 a3_1, .slice A3_2 l3_2.length c3_2] 24 (0, 0)) (by (with_reducible repeat (first | refine blk_drewN ?_ _ | refine blk_drew ?_ | refine blk_alloc ?_ _)); exact HX2.out) hk (fun hs_ => by have := CC.out; have h2_ := hs_; omega)); have n6_ := Aside0.mk (blk_kept (g := gC68) (o := .cells #[.int .i64 r51, .int .i64 r52, .slice Az58 r53.length cz58] 29 (0, 0)) (by (with_reducible repeat (first | refine blk_drewN ?_ _ | refine blk_drew ?_ | refine blk_alloc ?_ _)); exact HX67.out) hk (fun hs_ => by have := CC.out; have h2_ := hs_; omega)); have n7_ := Aside0.mk (blk_kept (g := w7.heap.size) (o := .cells #[.int .i64 a1_0, .int .i64 a1_1, .slice Az86 (cvL l1_2).length cz86] 29 (0, 0)) (by (with_reducible repeat (first | refine blk_drewN ?_ _ | refine blk_drew ?_ | refine blk_alloc ?_ _)); exact HX99.out) hk (fun hs_ => by have := CC.out; have h2_ := hs_; omega)); have n8_ := Aside0.mk (blk_kept (g := w8.heap.size) (o := .cells #[.int .i64 a3_0, .int .i64 a3_1, .slice Az103 (cvL l3_2).length cz103] 29 (0, 0)) (by (with_reducible repeat (first | refine blk_drewN ?_ _ | refine blk_drew ?_ | refine blk_alloc ?_ _)); exact HX120.out) hk (fun hs_ => by have := CC.out; have h2_ := hs_; omega)); have n9_ := Aside0.mk (blk_kept (g := w9.heap.size) (o := .cells #[.int .i64 r51, .int .i64 r52, .slice Az124 r53.length cz124] 29 (0, 0)) (by (with_reducible repeat (first | refine blk_drewN ?_ _ | refine blk_drew ?_ | refine blk_alloc ?_ _)); exact HX145.out) hk (fun hs_ => by have := CC.out; have h2_ := hs_; omega)); have n10_ := Aside0.mk (hbk); have C311 : Aside0 (w15.heap.size ≤ w16.heap.size) := ⟨by have h_ := hk.1; (try simp at h_); omega⟩; have CCn_ := Aside0.mk (And.intro CC.out C311.out); clear CC; have CC := CCn_; clear CCn_; clear HO57; clear HO85; clear HO123; clear HX1; clear HX2; clear HX67; clear HX99; clear HX120; clear HX145; clear HB; clear hl284; clear hx285; clear hx286; clear hx287; clear hl288; clear hx289; clear hx290; clear hx291; clear hl292; clear hx293; clear hx294; clear hx295; clear hl296; clear hx297; clear hx298; clear hx299; clear hl300; clear hx301; clear hx302; clear hx303; clear hl304; clear hx305; clear hx306; clear hx307; have HO57 := n1_; clear n1_; have HO85 := n2_; clear n2_; have HO123 := n3_; clear n3_; have HX1 := n4_; clear n4_; have HX2 := n5_; clear n5_; have HX67 := n6_; clear n6_; have HX99 := n7_; clear n7_; have HX120 := n8_; clear n8_; have HX145 := n9_; clear n9_; have HB := n10_; clear n10_; clear HO102; have HO102 := Aside0.mk hm0_; (try clear hk); (try clear hbk); (try clear hm0_); have hl312 : w.heap.size < w16.heap.size := blk_lt HX1.out; have hx313 : w16.cell? ⟨w.heap.size, 0, none⟩ = some (.int .i64 a1_0) := (blk_cell HX1.out 0).trans rfl; have hx314 : w16.cell? ⟨w.heap.size, 1, none⟩ = some (.int .i64 a1_1) := (blk_cell HX1.out 1).trans rfl; have hx315 : w16.cell? ⟨w.heap.size, 2, none⟩ = some (.slice A1_2 l1_2.length c1_2) := (blk_cell HX1.out 2).trans rfl; have hl316 : w.heap.size + 1 < w16.heap.size := blk_lt HX2.out; have hx317 : w16.cell? ⟨w.heap.size + 1, 0, none⟩ = some (.int .i64 a3_0) := (blk_cell HX2.out 0).trans rfl; have hx318 : w16.cell? ⟨w.heap.size + 1, 1, none⟩ = some (.int .i64 a3_1) := (blk_cell HX2.out 1).trans rfl; have hx319 : w16.cell? ⟨w.heap.size + 1, 2, none⟩ = some (.slice A3_2 l3_2.length c3_2) := (blk_cell HX2.out 2).trans rfl; have hl320 : gC68 < w16.heap.size := blk_lt HX67.out; have hx321 : w16.cell? ⟨gC68, 0, none⟩ = some (.int .i64 r51) := (blk_cell HX67.out 0).trans rfl; have hx322 : w16.cell? ⟨gC68, 1, none⟩ = some (.int .i64 r52) := (blk_cell HX67.out 1).trans rfl; have hx323 : w16.cell? ⟨gC68, 2, none⟩ = some (.slice Az58 r53.length cz58) := (blk_cell HX67.out 2).trans rfl; have hl324 : w7.heap.size < w16.heap.size := blk_lt HX99.out; have hx325 : w16.cell? ⟨w7.heap.size, 0, none⟩ = some (.int .i64 a1_0) := (blk_cell HX99.out 0).trans rfl; have hx326 : w16.cell? ⟨w7.heap.size, 1, none⟩ = some (.int .i64 a1_1) := (blk_cell HX99.out 1).trans rfl; have hx327 : w16.cell? ⟨w7.heap.size, 2, none⟩ = some (.slice Az86 (cvL l1_2).length cz86) := (blk_cell HX99.out 2).trans rfl; have hl328 : w8.heap.size < w16.heap.size := blk_lt HX120.out; have hx329 : w16.cell? ⟨w8.heap.size, 0, none⟩ = some (.int .i64 a3_0) := (blk_cell HX120.out 0).trans rfl; have hx330 : w16.cell? ⟨w8.heap.size, 1, none⟩ = some (.int .i64 a3_1) := (blk_cell HX120.out 1).trans rfl; have hx331 : w16.cell? ⟨w8.heap.size, 2, none⟩ = some (.slice Az103 (cvL l3_2).length cz103) := (blk_cell HX120.out 2).trans rfl; have hl332 : w9.heap.size < w16.heap.size := blk_lt HX145.out; have hx333 : w16.cell? ⟨w9.heap.size, 0, none⟩ = some (.int .i64 r51) := (blk_cell HX145.out 0).trans rfl; have hx334 : w16.cell? ⟨w9.heap.size, 1, none⟩ = some (.int .i64 r52) := (blk_cell HX145.out 1).trans rfl; have hx335 : w16.cell? ⟨w9.heap.size, 2, none⟩ = some (.slice Az124 r53.length cz124) := (blk_cell HX145.out 2).trans rfl) | (go_at_call 16; (with_reducible refine (laws_eqGate.calls k r51 r52 _ _ r53 r51 r52 _ _ r53 true _ ?side1 ?side2 ?side3 ?side4 A337.out).mono ?_); (case side1 => exact (Kd.G_reads' (n := r53.length) (A := Az124) (c := cz124) (by (with_reducible repeat (first | apply Kd.G_alloc | apply Kd.G_drewN | apply Kd.G_drew)); exact HO123.out)).2.2); (case side2 => exact (Kd.G_reads' (n := r53.length) (A := Az124) (c := cz124) HO123.out).2.1); (case side3 => exact (Kd.G_reads' (n := r53.length) (A := Az58) (c := cz58) (by (with_reducible repeat (first | apply Kd.G_alloc | apply Kd.G_drewN | apply Kd.G_drew)); exact HO57.out)).2.2); (case side4 => exact (Kd.G_reads' (n := r53.length) (A := Az58) (c := cz58) HO57.out).2.1); rintro e w17 ⟨rfl, hb⟩; have n1_ := Aside0.mk (Kd.G_below (by (with_reducible repeat (first | apply Kd.G_alloc | apply Kd.G_drewN | apply Kd.G_drew)); exact HO57.out) hb); have n2_ := Aside0.mk (Kd.G_below (by (with_reducible repeat (first | apply Kd.G_alloc | apply Kd.G_drewN | apply Kd.G_drew)); exact HO85.out) hb); have n3_ := Aside0.mk (Kd.G_below (by (with_reducible repeat (first | apply Kd.G_alloc | apply Kd.G_drewN | apply Kd.G_drew)); exact HO102.out) hb); have n4_ := Aside0.mk (Kd.G_below (by (with_reducible repeat (first | apply Kd.G_alloc | apply Kd.G_drewN | apply Kd.G_drew)); exact HO123.out) hb); have n5_ := Aside0.mk (blk_below (g := w.heap.size) (o := .cells #[.int .i64 a1_0, .int .i64 a1_1, .slice A1_2 l1_2.length c1_2] 24 (0, 0)) (by (with_reducible repeat (first | refine blk_drewN ?_ _ | refine blk_drew ?_ | refine blk_alloc ?_ _)); exact HX1.out) hb); have n6_ := Aside0.mk (blk_below (g := w.heap.size + 1) (o := .cells #[.int .i64 a3_0, .int .i64 a3_1, .slice A3_2 l3_2.length c3_2] 24 (0, 0)) (by (with_reducible repeat (first | refine blk_drewN ?_ _ | refine blk_drew ?_ | refine blk_alloc ?_ _)); exact HX2.out) hb); have n7_ := Aside0.mk (blk_below (g := gC68) (o := .cells #[.int .i64 r51, .int .i64 r52, .slice Az58 r53.length cz58] 29 (0, 0)) (by (with_reducible repeat (first | refine blk_drewN ?_ _ | refine blk_drew ?_ | refine blk_alloc ?_ _)); exact HX67.out) hb); have n8_ := Aside0.mk (blk_below (g := w7.heap.size) (o := .cells #[.int .i64 a1_0, .int .i64 a1_1, .slice Az86 (cvL l1_2).length cz86] 29 (0, 0)) (by (with_reducible repeat (first | refine blk_drewN ?_ _ | refine blk_drew ?_ | refine blk_alloc ?_ _)); exact HX99.out) hb); have n9_ := Aside0.mk (blk_below (g := w8.heap.size) (o := .cells #[.int .i64 a3_0, .int .i64 a3_1, .slice Az103 (cvL l3_2).length cz103] 29 (0, 0)) (by (with_reducible repeat (first | refine blk_drewN ?_ _ | refine blk_drew ?_ | refine blk_alloc ?_ _)); exact HX120.out) hb); have n10_ := Aside0.mk (blk_below (g := w9.heap.size) (o := .cells #[.int .i64 r51, .int .i64 r52, .slice Az124 r53.length cz124] 29 (0, 0)) (by (with_reducible repeat (first | refine blk_drewN ?_ _ | refine blk_drew ?_ | refine blk_alloc ?_ _)); exact HX145.out) hb); have n11_ := Aside0.mk (below_step (by repeat (first | (with_reducible first | exact HB.out | apply below_alloc | apply pw_below_drewN | apply below_drew1) | exact HB.out)) hb); have C338 : Aside0 (w16.heap.size ≤ w17.heap.size) := ⟨by have h_ := hb.size; (try simp at h_); omega⟩; have CCn_ := Aside0.mk (And.intro CC.out C338.out); clear CC; have CC := CCn_; clear CCn_; clear HO57; clear HO85; clear HO102; clear HO123; clear HX1; clear HX2; clear HX67; clear HX99; clear HX120; clear HX145; clear HB; clear hl312; clear hx313; clear hx314; clear hx315; clear hl316; clear hx317; clear hx318; clear hx319; clear hl320; clear hx321; clear hx322; clear hx323; clear hl324; clear hx325; clear hx326; clear hx327; clear hl328; clear hx329; clear hx330; clear hx331; clear hl332; clear hx333; clear hx334; clear hx335; have HO57 := n1_; clear n1_; have HO85 := n2_; clear n2_; have HO102 := n3_; clear n3_; have HO123 := n4_; clear n4_; have HX1 := n5_; clear n5_; have HX2 := n6_; clear n6_; have HX67 := n7_; clear n7_; have HX99 := n8_; clear n8_; have HX120 := n9_; clear n9_; have HX145 := n10_; clear n10_; have HB := n11_; clear n11_; (try clear hb); have hl339 : w.heap.size < w17.heap.size := blk_lt HX1.out; have hx340 : w17.cell? ⟨w.heap.size, 0, none⟩ = some (.int .i64 a1_0) := (blk_cell HX1.out 0).trans rfl; have hx341 : w17.cell? ⟨w.heap.size, 1, none⟩ = some (.int .i64 a1_1) := (blk_cell HX1.out 1).trans rfl; have hx342 : w17.cell? ⟨w.heap.size, 2, none⟩ = some (.slice A1_2 l1_2.length c1_2) := (blk_cell HX1.out 2).trans rfl; have hl343 : w.heap.size + 1 < w17.heap.size := blk_lt HX2.out; have hx344 : w17.cell? ⟨w.heap.size + 1, 0, none⟩ = some (.int .i64 a3_0) := (blk_cell HX2.out 0).trans rfl; have hx345 : w17.cell? ⟨w.heap.size + 1, 1, none⟩ = some (.int .i64 a3_1) := (blk_cell HX2.out 1).trans rfl; have hx346 : w17.cell? ⟨w.heap.size + 1, 2, none⟩ = some (.slice A3_2 l3_2.length c3_2) := (blk_cell HX2.out 2).trans rfl; have hl347 : gC68 < w17.heap.size := blk_lt HX67.out; have hx348 : w17.cell? ⟨gC68, 0, none⟩ = some (.int .i64 r51) := (blk_cell HX67.out 0).trans rfl; have hx349 : w17.cell? ⟨gC68, 1, none⟩ = some (.int .i64 r52) := (blk_cell HX67.out 1).trans rfl; have hx350 : w17.cell? ⟨gC68, 2, none⟩ = some (.slice Az58 r53.length cz58) := (blk_cell HX67.out 2).trans rfl; have hl351 : w7.heap.size < w17.heap.size := blk_lt HX99.out; have hx352 : w17.cell? ⟨w7.heap.size, 0, none⟩ = some (.int .i64 a1_0) := (blk_cell HX99.out 0).trans rfl; have hx353 : w17.cell? ⟨w7.heap.size, 1, none⟩ = some (.int .i64 a1_1) := (blk_cell HX99.out 1).trans rfl; have hx354 : w17.cell? ⟨w7.heap.size, 2, none⟩ = some (.slice Az86 (cvL l1_2).length cz86) := (blk_cell HX99.out 2).trans rfl; have hl355 : w8.heap.size < w17.heap.size := blk_lt HX120.out; have hx356 : w17.cell? ⟨w8.heap.size, 0, none⟩ = some (.int .i64 a3_0) := (blk_cell HX120.out 0).trans rfl; have hx357 : w17.cell? ⟨w8.heap.size, 1, none⟩ = some (.int .i64 a3_1) := (blk_cell HX120.out 1).trans rfl; have hx358 : w17.cell? ⟨w8.heap.size, 2, none⟩ = some (.slice Az103 (cvL l3_2).length cz103) := (blk_cell HX120.out 2).trans rfl; have hl359 : w9.heap.size < w17.heap.size := blk_lt HX145.out; have hx360 : w17.cell? ⟨w9.heap.size, 0, none⟩ = some (.int .i64 r51) := (blk_cell HX145.out 0).trans rfl; have hx361 : w17.cell? ⟨w9.heap.size, 1, none⟩ = some (.int .i64 r52) := (blk_cell HX145.out 1).trans rfl; have hx362 : w17.cell? ⟨w9.heap.size, 2, none⟩ = some (.slice Az124 r53.length cz124) := (blk_cell HX145.out 2).trans rfl) | ((with_reducible refine gate_callee (f := 23) rfl ?_); refine goesL_ (some 93) rfl rfl Try.func23 (by kernel_rfl) rfl #[.agg #[.int .i64 r51, .int .i64 r52, .slice Az124 r53.length cz124], .int .i64 1] rfl (by (try simp only [List.map_toArray, List.map_cons, List.map_nil]); first | done | rfl | (simp only [List.length_drop, List.length_take]; rfl)) ?_; (with_reducible refine (laws_markGate.callsM k r51 r52 (fun k_ => w8.heap.size + 1 ≤ k_ ∧ k_ < w9.heap.size) (.slice Az124 r53.length cz124) r53 1 m363 ys364 w _ ?side1 ?side2 A365.out).mono ?_); (case side1 => repeat (first | (with_reducible first | exact HB.out | apply below_alloc | apply pw_below_drewN | apply below_drew1) | exact HB.out)); (case side2 => exact (by (with_reducible repeat (first | apply Kd.G_alloc | apply Kd.G_drewN | apply Kd.G_drew)); exact HO123.out)); rintro e w18 ⟨rfl, hm0_, hbk, hk⟩; refine ⟨_, rfl, ?_⟩; have n1_ := Aside0.mk (Kd.G_kept (by (with_reducible repeat (first | apply Kd.G_alloc | apply Kd.G_drewN | apply Kd.G_drew)); exact HO57.out) hk (fun k_ hk_ hs_ => by have := CC.out; have h1_ := hk_; have h2_ := hs_; omega)); have n2_ := Aside0.mk (Kd.G_kept (by (with_reducible repeat (first | apply Kd.G_alloc | apply Kd.G_drewN | apply Kd.G_drew)); exact HO85.out) hk (fun k_ hk_ hs_ => by have := CC.out; have h1_ := hk_; have h2_ := hs_; omega)); have n3_ := Aside0.mk (Kd.G_kept (by (with_reducible repeat (first | apply Kd.G_alloc | apply Kd.G_drewN | apply Kd.G_drew)); exact HO102.out) hk (fun k_ hk_ hs_ => by have := CC.out; have h1_ := hk_; have h2_ := hs_; omega)); have n4_ := Aside0.mk (blk_kept (g := w.heap.size) (o := .cells #[.int .i64 a1_0, .int .i64 a1_1, .slice A1_2 l1_2.length c1_2] 24 (0, 0)) (by (with_reducible repeat (first | refine blk_drewN ?_ _ | refine blk_drew ?_ | refine blk_alloc ?_ _)); exact HX1.out) hk (fun hs_ => by have := CC.out; have h2_ := hs_; omega)); have n5_ := Aside0.mk (blk_kept (g := w.heap.size + 1) (o := .cells #[.int .i64 a3_0, .int .i64 a3_1, .slice A3_2 l3_2.length c3_2] 24 (0, 0)) (by (with_reducible repeat (first | refine blk_drewN ?_ _ | refine blk_drew ?_ | refine blk_alloc ?_ _)); exact HX2.out) hk (fun hs_ => by have := CC.out; have h2_ := hs_; omega)); have n6_ := Aside0.mk (blk_kept (g := gC68) (o := .cells #[.int .i64 r51, .int .i64 r52, .slice Az58 r53.length cz58] 29 (0, 0)) (by (with_reducible repeat (first | refine blk_drewN ?_ _ | refine blk_drew ?_ | refine blk_alloc ?_ _)); exact HX67.out) hk (fun hs_ => by have := CC.out; have h2_ := hs_; omega)); have n7_ := Aside0.mk (blk_kept (g := w7.heap.size) (o := .cells #[.int .i64 a1_0, .int .i64 a1_1, .slice Az86 (cvL l1_2).length cz86] 29 (0, 0)) (by (with_reducible repeat (first | refine blk_drewN ?_ _ | refine blk_drew ?_ | refine blk_alloc ?_ _)); exact HX99.out) hk (fun hs_ => by have := CC.out; have h2_ := hs_; omega)); have n8_ := Aside0.mk (blk_kept (g := w8.heap.size) (o := .cells #[.int .i64 a3_0, .int .i64 a3_1, .slice Az103 (cvL l3_2).length cz103] 29 (0, 0)) (by (with_reducible repeat (first | refine blk_drewN ?_ _ | refine blk_drew ?_ | refine blk_alloc ?_ _)); exact HX120.out) hk (fun hs_ => by have := CC.out; have h2_ := hs_; omega)); have n9_ := Aside0.mk (blk_kept (g := w9.heap.size) (o := .cells #[.int .i64 r51, .int .i64 r52, .slice Az124 r53.length cz124] 29 (0, 0)) (by (with_reducible repeat (first | refine blk_drewN ?_ _ | refine blk_drew ?_ | refine blk_alloc ?_ _)); exact HX145.out) hk (fun hs_ => by have := CC.out; have h2_ := hs_; omega)); have n10_ := Aside0.mk (hbk); have C366 : Aside0 (w17.heap.size ≤ w18.heap.size) := ⟨by have h_ := hk.1; (try simp at h_); omega⟩; have CCn_ := Aside0.mk (And.intro CC.out C366.out); clear CC; have CC := CCn_; clear CCn_; clear HO57; clear HO85; clear HO102; clear HX1; clear HX2; clear HX67; clear HX99; clear HX120; clear HX145; clear HB; clear hl339; clear hx340; clear hx341; clear hx342; clear hl343; clear hx344; clear hx345; clear hx346; clear hl347; clear hx348; clear hx349; clear hx350; clear hl351; clear hx352; clear hx353; clear hx354; clear hl355; clear hx356; clear hx357; clear hx358; clear hl359; clear hx360; clear hx361; clear hx362; have HO57 := n1_; clear n1_; have HO85 := n2_; clear n2_; have HO102 := n3_; clear n3_; have HX1 := n4_; clear n4_; have HX2 := n5_; clear n5_; have HX67 := n6_; clear n6_; have HX99 := n7_; clear n7_; have HX120 := n8_; clear n8_; have HX145 := n9_; clear n9_; have HB := n10_; clear n10_; clear HO123; have HO123 := Aside0.mk hm0_; (try clear hk); (try clear hbk); (try clear hm0_); have hl367 : w.heap.size < w18.heap.size := blk_lt HX1.out; have hx368 : w18.cell? ⟨w.heap.size, 0, none⟩ = some (.int .i64 a1_0) := (blk_cell HX1.out 0).trans rfl; have hx369 : w18.cell? ⟨w.heap.size, 1, none⟩ = some (.int .i64 a1_1) := (blk_cell HX1.out 1).trans rfl; have hx370 : w18.cell? ⟨w.heap.size, 2, none⟩ = some (.slice A1_2 l1_2.length c1_2) := (blk_cell HX1.out 2).trans rfl; have hl371 : w.heap.size + 1 < w18.heap.size := blk_lt HX2.out; have hx372 : w18.cell? ⟨w.heap.size + 1, 0, none⟩ = some (.int .i64 a3_0) := (blk_cell HX2.out 0).trans rfl; have hx373 : w18.cell? ⟨w.heap.size + 1, 1, none⟩ = some (.int .i64 a3_1) := (blk_cell HX2.out 1).trans rfl; have hx374 : w18.cell? ⟨w.heap.size + 1, 2, none⟩ = some (.slice A3_2 l3_2.length c3_2) := (blk_cell HX2.out 2).trans rfl; have hl375 : gC68 < w18.heap.size := blk_lt HX67.out; have hx376 : w18.cell? ⟨gC68, 0, none⟩ = some (.int .i64 r51) := (blk_cell HX67.out 0).trans rfl; have hx377 : w18.cell? ⟨gC68, 1, none⟩ = some (.int .i64 r52) := (blk_cell HX67.out 1).trans rfl; have hx378 : w18.cell? ⟨gC68, 2, none⟩ = some (.slice Az58 r53.length cz58) := (blk_cell HX67.out 2).trans rfl; have hl379 : w7.heap.size < w18.heap.size := blk_lt HX99.out; have hx380 : w18.cell? ⟨w7.heap.size, 0, none⟩ = some (.int .i64 a1_0) := (blk_cell HX99.out 0).trans rfl; have hx381 : w18.cell? ⟨w7.heap.size, 1, none⟩ = some (.int .i64 a1_1) := (blk_cell HX99.out 1).trans rfl; have hx382 : w18.cell? ⟨w7.heap.size, 2, none⟩ = some (.slice Az86 (cvL l1_2).length cz86) := (blk_cell HX99.out 2).trans rfl; have hl383 : w8.heap.size < w18.heap.size := blk_lt HX120.out; have hx384 : w18.cell? ⟨w8.heap.size, 0, none⟩ = some (.int .i64 a3_0) := (blk_cell HX120.out 0).trans rfl; have hx385 : w18.cell? ⟨w8.heap.size, 1, none⟩ = some (.int .i64 a3_1) := (blk_cell HX120.out 1).trans rfl; have hx386 : w18.cell? ⟨w8.heap.size, 2, none⟩ = some (.slice Az103 (cvL l3_2).length cz103) := (blk_cell HX120.out 2).trans rfl; have hl387 : w9.heap.size < w18.heap.size := blk_lt HX145.out; have hx388 : w18.cell? ⟨w9.heap.size, 0, none⟩ = some (.int .i64 r51) := (blk_cell HX145.out 0).trans rfl; have hx389 : w18.cell? ⟨w9.heap.size, 1, none⟩ = some (.int .i64 r52) := (blk_cell HX145.out 1).trans rfl; have hx390 : w18.cell? ⟨w9.heap.size, 2, none⟩ = some (.slice Az124 r53.length cz124) := (blk_cell HX145.out 2).trans rfl) | ((with_reducible refine gate_callee (f := 24) rfl ?_); refine goesL_ (some 96) rfl rfl Try.func24 (by kernel_rfl) rfl #[.agg #[.int .i64 r51, .int .i64 r52, .slice Az124 r53.length cz124], .int .i64 1] rfl (by (try simp only [List.map_toArray, List.map_cons, List.map_nil]); first | done | rfl | (simp only [List.length_drop, List.length_take]; rfl)) ?_; (with_reducible refine (calls_as ?eq_ (laws_heldGate.calls k r51 r52 Az124 cz124 ys364 1 m363 _ ?side1 ?side2 A391.out)).mono ?_); (case eq_ => rw [show ys364.length = r53.length from (Kd.G_reads' HO123.out).1.symm]); (case side1 => exact (Kd.G_reads' (n := r53.length) (A := Az124) (c := cz124) (by (with_reducible repeat (first | apply Kd.G_alloc | apply Kd.G_drewN | apply Kd.G_drew)); exact HO123.out)).2.2); (case side2 => exact Nat.le_trans (Nat.le_of_eq (Kd.G_reads' HO123.out).1.symm) (Kd.G_reads' HO123.out).2.1); rintro e w19 ⟨rfl, hb⟩; refine ⟨_, rfl, ?_⟩; have n1_ := Aside0.mk (Kd.G_below (by (with_reducible repeat (first | apply Kd.G_alloc | apply Kd.G_drewN | apply Kd.G_drew)); exact HO57.out) hb); have n2_ := Aside0.mk (Kd.G_below (by (with_reducible repeat (first | apply Kd.G_alloc | apply Kd.G_drewN | apply Kd.G_drew)); exact HO85.out) hb); have n3_ := Aside0.mk (Kd.G_below (by (with_reducible repeat (first | apply Kd.G_alloc | apply Kd.G_drewN | apply Kd.G_drew)); exact HO102.out) hb); have n4_ := Aside0.mk (Kd.G_below (by (with_reducible repeat (first | apply Kd.G_alloc | apply Kd.G_drewN | apply Kd.G_drew)); exact HO123.out) hb); have n5_ := Aside0.mk (blk_below (g := w.heap.size) (o := .cells #[.int .i64 a1_0, .int .i64 a1_1, .slice A1_2 l1_2.length c1_2] 24 (0, 0)) (by (with_reducible repeat (first | refine blk_drewN ?_ _ | refine blk_drew ?_ | refine blk_alloc ?_ _)); exact HX1.out) hb); have n6_ := Aside0.mk (blk_below (g := w.heap.size + 1) (o := .cells #[.int .i64 a3_0, .int .i64 a3_1, .slice A3_2 l3_2.length c3_2] 24 (0, 0)) (by (with_reducible repeat (first | refine blk_drewN ?_ _ | refine blk_drew ?_ | refine blk_alloc ?_ _)); exact HX2.out) hb); have n7_ := Aside0.mk (blk_below (g := gC68) (o := .cells #[.int .i64 r51, .int .i64 r52, .slice Az58 r53.length cz58] 29 (0, 0)) (by (with_reducible repeat (first | refine blk_drewN ?_ _ | refine blk_drew ?_ | refine blk_alloc ?_ _)); exact HX67.out) hb); have n8_ := Aside0.mk (blk_below (g := w7.heap.size) (o := .cells #[.int .i64 a1_0, .int .i64 a1_1, .slice Az86 (cvL l1_2).length cz86] 29 (0, 0)) (by (with_reducible repeat (first | refine blk_drewN ?_ _ | refine blk_drew ?_ | refine blk_alloc ?_ _)); exact HX99.out) hb); have n9_ := Aside0.mk (blk_below (g := w8.heap.size) (o := .cells #[.int .i64 a3_0, .int .i64 a3_1, .slice Az103 (cvL l3_2).length cz103] 29 (0, 0)) (by (with_reducible repeat (first | refine blk_drewN ?_ _ | refine blk_drew ?_ | refine blk_alloc ?_ _)); exact HX120.out) hb); have n10_ := Aside0.mk (blk_below (g := w9.heap.size) (o := .cells #[.int .i64 r51, .int .i64 r52, .slice Az124 r53.length cz124] 29 (0, 0)) (by (with_reducible repeat (first | refine blk_drewN ?_ _ | refine blk_drew ?_ | refine blk_alloc ?_ _)); exact HX145.out) hb); have n11_ := Aside0.mk (below_step (by repeat (first | (with_reducible first | exact HB.out | apply below_alloc | apply pw_below_drewN | apply below_drew1) | exact HB.out)) hb); have C392 : Aside0 (w18.heap.size ≤ w19.heap.size) := ⟨by have h_ := hb.size; (try simp at h_); omega⟩; have CCn_ := Aside0.mk (And.intro CC.out C392.out); clear CC; have CC := CCn_; clear CCn_; clear HO57; clear HO85; clear HO102; clear HO123; clear HX1; clear HX2; clear HX67; clear HX99; clear HX120; clear HX145; clear HB; clear hl367; clear hx368; clear hx369; clear hx370; clear hl371; clear hx372; clear hx373; clear hx374; clear hl375; clear hx376; clear hx377; clear hx378; clear hl379; clear hx380; clear hx381; clear hx382; clear hl383; clear hx384; clear hx385; clear hx386; clear hl387; clear hx388; clear hx389; clear hx390; have HO57 := n1_; clear n1_; have HO85 := n2_; clear n2_; have HO102 := n3_; clear n3_; have HO123 := n4_; clear n4_; have HX1 := n5_; clear n5_; have HX2 := n6_; clear n6_; have HX67 := n7_; clear n7_; have HX99 := n8_; clear n8_; have HX120 := n9_; clear n9_; have HX145 := n10_; clear n10_; have HB := n11_; clear n11_; (try clear hb); have hl393 : w.heap.size < w19.heap.size := blk_lt HX1.out; have hx394 : w19.cell? ⟨w.heap.size, 0, none⟩ = some (.int .i64 a1_0) := (blk_cell HX1.out 0).trans rfl; have hx395 : w19.cell? ⟨w.heap.size, 1, none⟩ = some (.int .i64 a1_1) := (blk_cell HX1.out 1).trans rfl; have hx396 : w19.cell? ⟨w.heap.size, 2, none⟩ = some (.slice A1_2 l1_2.length c1_2) := (blk_cell HX1.out 2).trans rfl; have hl397 : w.heap.size + 1 < w19.heap.size := blk_lt HX2.out; have hx398 : w19.cell? ⟨w.heap.size + 1, 0, none⟩ = some (.int .i64 a3_0) := (blk_cell HX2.out 0).trans rfl; have hx399 : w19.cell? ⟨w.heap.size + 1, 1, none⟩ = some (.int .i64 a3_1) := (blk_cell HX2.out 1).trans rfl; have hx400 : w19.cell? ⟨w.heap.size + 1, 2, none⟩ = some (.slice A3_2 l3_2.length c3_2) := (blk_cell HX2.out 2).trans rfl; have hl401 : gC68 < w19.heap.size := blk_lt HX67.out; have hx402 : w19.cell? ⟨gC68, 0, none⟩ = some (.int .i64 r51) := (blk_cell HX67.out 0).trans rfl; have hx403 : w19.cell? ⟨gC68, 1, none⟩ = some (.int .i64 r52) := (blk_cell HX67.out 1).trans rfl; have hx404 : w19.cell? ⟨gC68, 2, none⟩ = some (.slice Az58 r53.length cz58) := (blk_cell HX67.out 2).trans rfl; have hl405 : w7.heap.size < w19.heap.size := blk_lt HX99.out; have hx406 : w19.cell? ⟨w7.heap.size, 0, none⟩ = some (.int .i64 a1_0) := (blk_cell HX99.out 0).trans rfl; have hx407 : w19.cell? ⟨w7.heap.size, 1, none⟩ = some (.int .i64 a1_1) := (blk_cell HX99.out 1).trans rfl; have hx408 : w19.cell? ⟨w7.heap.size, 2, none⟩ = some (.slice Az86 (cvL l1_2).length cz86) := (blk_cell HX99.out 2).trans rfl; have hl409 : w8.heap.size < w19.heap.size := blk_lt HX120.out; have hx410 : w19.cell? ⟨w8.heap.size, 0, none⟩ = some (.int .i64 a3_0) := (blk_cell HX120.out 0).trans rfl; have hx411 : w19.cell? ⟨w8.heap.size, 1, none⟩ = some (.int .i64 a3_1) := (blk_cell HX120.out 1).trans rfl; have hx412 : w19.cell? ⟨w8.heap.size, 2, none⟩ = some (.slice Az103 (cvL l3_2).length cz103) := (blk_cell HX120.out 2).trans rfl; have hl413 : w9.heap.size < w19.heap.size := blk_lt HX145.out; have hx414 : w19.cell? ⟨w9.heap.size, 0, none⟩ = some (.int .i64 r51) := (blk_cell HX145.out 0).trans rfl; have hx415 : w19.cell? ⟨w9.heap.size, 1, none⟩ = some (.int .i64 r52) := (blk_cell HX145.out 1).trans rfl; have hx416 : w19.cell? ⟨w9.heap.size, 2, none⟩ = some (.slice Az124 r53.length cz124) := (blk_cell HX145.out 2).trans rfl))
  go_cut [19, 20] from 102 (fun s19_ s20_ wx => ∃ (gC503 : Nat) (Az477 : Option Addr) (cz477 : Nat), s19_ = .pointer (some ⟨gC503, 0, none⟩) ∧ s20_ = .int .i64 r54 ∧ Aside0 (Kd.S kG 29 wx w.heap.size (fun k_ => w19.heap.size ≤ k_ ∧ k_ < wx.heap.size) (.slice Az477 r53.length cz477) r53) ∧ Aside0 (wx.heap[gC503]? = some (.cells #[.int .i64 r51, .int .i64 r52, .slice Az477 r53.length cz477] 29 (0, 0))) ∧ Aside0 (Kd.S kG 29 wx w.heap.size (fun k_ => w2.heap.size ≤ k_ ∧ k_ < w6.heap.size) (.slice Az58 r53.length cz58) r53) ∧ Aside0 (Kd.S kG 29 wx w.heap.size (fun k_ => w6.heap.size ≤ k_ ∧ k_ < w7.heap.size) (.slice Az86 (cvL l1_2).length cz86) ys281) ∧ Aside0 (Kd.S kG 29 wx w.heap.size (fun k_ => w7.heap.size + 1 ≤ k_ ∧ k_ < w8.heap.size) (.slice Az103 (cvL l3_2).length cz103) ys309) ∧ Aside0 (Kd.S kG 29 wx w.heap.size (fun k_ => w8.heap.size + 1 ≤ k_ ∧ k_ < w9.heap.size) (.slice Az124 r53.length cz124) ys364) ∧ Aside0 (wx.heap[w.heap.size]? = some (.cells #[.int .i64 a1_0, .int .i64 a1_1, .slice A1_2 l1_2.length c1_2] 24 (0, 0))) ∧ Aside0 (wx.heap[w.heap.size + 1]? = some (.cells #[.int .i64 a3_0, .int .i64 a3_1, .slice A3_2 l3_2.length c3_2] 24 (0, 0))) ∧ Aside0 (wx.heap[gC68]? = some (.cells #[.int .i64 r51, .int .i64 r52, .slice Az58 r53.length cz58] 29 (0, 0))) ∧ Aside0 (wx.heap[w7.heap.size]? = some (.cells #[.int .i64 a1_0, .int .i64 a1_1, .slice Az86 (cvL l1_2).length cz86] 29 (0, 0))) ∧ Aside0 (wx.heap[w8.heap.size]? = some (.cells #[.int .i64 a3_0, .int .i64 a3_1, .slice Az103 (cvL l3_2).length cz103] 29 (0, 0))) ∧ Aside0 (wx.heap[w9.heap.size]? = some (.cells #[.int .i64 r51, .int .i64 r52, .slice Az124 r53.length cz124] 29 (0, 0))) ∧ Aside0 (Below w.heap.size w wx) ∧ Aside0 (w19.heap.size ≤ wx.heap.size))
  case first =>
    go_region_held3 (fun w' => w'.cell? ⟨w.heap.size, 0, none⟩ = some (.int .i64 a1_0) ∧ w'.cell? ⟨w.heap.size, 1, none⟩ = some (.int .i64 a1_1) ∧ w'.cell? ⟨w.heap.size, 2, none⟩ = some (.slice A1_2 l1_2.length c1_2) ∧ w'.cell? ⟨w.heap.size + 1, 0, none⟩ = some (.int .i64 a3_0) ∧ w'.cell? ⟨w.heap.size + 1, 1, none⟩ = some (.int .i64 a3_1) ∧ w'.cell? ⟨w.heap.size + 1, 2, none⟩ = some (.slice A3_2 l3_2.length c3_2)) (first | ((repeat' apply And.intro) <;> assumption) | exact ⟨(cell_far3 (a := ⟨w.heap.size, 0, none⟩) (blk_ne HX1.out hz_.out (by decide))).trans (by assumption), (cell_far3 (a := ⟨w.heap.size, 1, none⟩) (blk_ne HX1.out hz_.out (by decide))).trans (by assumption), (cell_far3 (a := ⟨w.heap.size, 2, none⟩) (blk_ne HX1.out hz_.out (by decide))).trans (by assumption), (cell_far3 (a := ⟨w.heap.size + 1, 0, none⟩) (blk_ne HX2.out hz_.out (by decide))).trans (by assumption), (cell_far3 (a := ⟨w.heap.size + 1, 1, none⟩) (blk_ne HX2.out hz_.out (by decide))).trans (by assumption), (cell_far3 (a := ⟨w.heap.size + 1, 2, none⟩) (blk_ne HX2.out hz_.out (by decide))).trans (by assumption)⟩ | go_keep) (first | (go_at_call 14; (with_reducible refine (laws_toGate.calls k a1_0 a1_1 _ _ l1_2 a1_0 a1_1 (cvL l1_2) _ ?side1 ?side2 A418.out).mono ?_); (case side1 => exact Kd.C_below HR1_2.out (by repeat (first | (with_reducible first | exact HB.out | apply below_alloc | apply pw_below_drewN | apply below_drew1) | exact HB.out))); (case side2 => exact HC1_2.out); rintro e w20 ⟨v100_, rfl, ho0_, hb⟩; (first | have hoz0_ := G_apart (g := w19.heap.size) (o := .cells #[(.int .i64 0 : Value), (.int .i64 0 : Value), (.slice none 0 0 : Value)] 29 (0, 0)) (by exact blk_new_at (by simp)) ho0_ | have hoz0_ := G_apart hz_.out ho0_ | skip); have n1_ := Aside0.mk (Kd.G_below (by (with_reducible repeat (first | apply Kd.G_alloc | apply Kd.G_drewN | apply Kd.G_drew)); exact HO57.out) hb); have n2_ := Aside0.mk (Kd.G_below (by (with_reducible repeat (first | apply Kd.G_alloc | apply Kd.G_drewN | apply Kd.G_drew)); exact HO85.out) hb); have n3_ := Aside0.mk (Kd.G_below (by (with_reducible repeat (first | apply Kd.G_alloc | apply Kd.G_drewN | apply Kd.G_drew)); exact HO102.out) hb); have n4_ := Aside0.mk (Kd.G_below (by (with_reducible repeat (first | apply Kd.G_alloc | apply Kd.G_drewN | apply Kd.G_drew)); exact HO123.out) hb); (first | (have hzn_ := Aside0.mk (blk_below (g := w19.heap.size) (o := .cells #[(.int .i64 0 : Value), (.int .i64 0 : Value), (.slice none 0 0 : Value)] 29 (0, 0)) (by exact blk_new_at (by simp)) hb)) | (have hzn_ := Aside0.mk (blk_below (o := .cells #[(.int .i64 0 : Value), (.int .i64 0 : Value), (.slice none 0 0 : Value)] 29 (0, 0)) hz_.out hb); clear hz_) | skip); (try (have hz_ := hzn_; clear hzn_)); (try have hzc0_ : w20.cell? ⟨_, 0, none⟩ = some ((.int .i64 0 : Value)) := (blk_cell hz_.out 0).trans rfl); (try have hzf0_ := blk_frozen hz_.out 0); (try have hzc1_ : w20.cell? ⟨_, 1, none⟩ = some ((.int .i64 0 : Value)) := (blk_cell hz_.out 1).trans rfl); (try have hzf1_ := blk_frozen hz_.out 1); (try have hzc2_ : w20.cell? ⟨_, 2, none⟩ = some ((.slice none 0 0 : Value)) := (blk_cell hz_.out 2).trans rfl); (try have hzf2_ := blk_frozen hz_.out 2); (try have hzl_ := blk_lt hz_.out); have n5_ := Aside0.mk (blk_below (g := w.heap.size) (o := .cells #[.int .i64 a1_0, .int .i64 a1_1, .slice A1_2 l1_2.length c1_2] 24 (0, 0)) (by (with_reducible repeat (first | refine blk_drewN ?_ _ | refine blk_drew ?_ | refine blk_alloc ?_ _)); exact HX1.out) hb); have n6_ := Aside0.mk (blk_below (g := w.heap.size + 1) (o := .cells #[.int .i64 a3_0, .int .i64 a3_1, .slice A3_2 l3_2.length c3_2] 24 (0, 0)) (by (with_reducible repeat (first | refine blk_drewN ?_ _ | refine blk_drew ?_ | refine blk_alloc ?_ _)); exact HX2.out) hb); have n7_ := Aside0.mk (blk_below (g := gC68) (o := .cells #[.int .i64 r51, .int .i64 r52, .slice Az58 r53.length cz58] 29 (0, 0)) (by (with_reducible repeat (first | refine blk_drewN ?_ _ | refine blk_drew ?_ | refine blk_alloc ?_ _)); exact HX67.out) hb); have n8_ := Aside0.mk (blk_below (g := w7.heap.size) (o := .cells #[.int .i64 a1_0, .int .i64 a1_1, .slice Az86 (cvL l1_2).length cz86] 29 (0, 0)) (by (with_reducible repeat (first | refine blk_drewN ?_ _ | refine blk_drew ?_ | refine blk_alloc ?_ _)); exact HX99.out) hb); have n9_ := Aside0.mk (blk_below (g := w8.heap.size) (o := .cells #[.int .i64 a3_0, .int .i64 a3_1, .slice Az103 (cvL l3_2).length cz103] 29 (0, 0)) (by (with_reducible repeat (first | refine blk_drewN ?_ _ | refine blk_drew ?_ | refine blk_alloc ?_ _)); exact HX120.out) hb); have n10_ := Aside0.mk (blk_below (g := w9.heap.size) (o := .cells #[.int .i64 r51, .int .i64 r52, .slice Az124 r53.length cz124] 29 (0, 0)) (by (with_reducible repeat (first | refine blk_drewN ?_ _ | refine blk_drew ?_ | refine blk_alloc ?_ _)); exact HX145.out) hb); have n11_ := Aside0.mk (below_step (by repeat (first | (with_reducible first | exact HB.out | apply below_alloc | apply pw_below_drewN | apply below_drew1) | exact HB.out)) hb); have C419 : Aside0 (w19.heap.size ≤ w20.heap.size) := ⟨by have h_ := hb.size; (try simp at h_); omega⟩; have CCn_ := Aside0.mk (And.intro CC.out C419.out); clear CC; have CC := CCn_; clear CCn_; clear HO57; clear HO85; clear HO102; clear HO123; clear HX1; clear HX2; clear HX67; clear HX99; clear HX120; clear HX145; clear HB; clear hl393; clear hx394; clear hx395; clear hx396; clear hl397; clear hx398; clear hx399; clear hx400; clear hl401; clear hx402; clear hx403; clear hx404; clear hl405; clear hx406; clear hx407; clear hx408; clear hl409; clear hx410; clear hx411; clear hx412; clear hl413; clear hx414; clear hx415; clear hx416; have HO57 := n1_; clear n1_; have HO85 := n2_; clear n2_; have HO102 := n3_; clear n3_; have HO123 := n4_; clear n4_; have HX1 := n5_; clear n5_; have HX2 := n6_; clear n6_; have HX67 := n7_; clear n7_; have HX99 := n8_; clear n8_; have HX120 := n9_; clear n9_; have HX145 := n10_; clear n10_; have HB := n11_; clear n11_; have HO420 := Aside0.mk (Kd.G_lower (base' := w.heap.size) (Kd.G_mono (Kd.G_bound ho0_) (ok' := fun k_ => w19.heap.size ≤ k_ ∧ k_ < w20.heap.size) (fun k_ hk_ => ⟨by have h_ := hk_.2.1; (try simp at h_); omega, hk_.2.2.1⟩)) (by have := CC.out; first | omega | (simp; done) | (simp; omega))); obtain ⟨Az421, cz421, ez421⟩ := Kd.G_slice HO420.out; subst ez421; (try have HO420z := Aside0.mk (G_bound2 (Pq := fun k_ => w19.heap.size ≤ k_ ∧ k_ < w20.heap.size) (base' := w.heap.size) hoz0_ (fun k_ h1_ h2_ => ⟨by (try simp at h1_); omega, h2_⟩) (by have := CC.out; first | omega | (simp; done) | (simp; omega)))); (try clear hoz0_); (try clear hb); (try clear ho0_); have hl422 : w.heap.size < w20.heap.size := blk_lt HX1.out; have hx423 : w20.cell? ⟨w.heap.size, 0, none⟩ = some (.int .i64 a1_0) := (blk_cell HX1.out 0).trans rfl; have hx424 : w20.cell? ⟨w.heap.size, 1, none⟩ = some (.int .i64 a1_1) := (blk_cell HX1.out 1).trans rfl; have hx425 : w20.cell? ⟨w.heap.size, 2, none⟩ = some (.slice A1_2 l1_2.length c1_2) := (blk_cell HX1.out 2).trans rfl; have hl426 : w.heap.size + 1 < w20.heap.size := blk_lt HX2.out; have hx427 : w20.cell? ⟨w.heap.size + 1, 0, none⟩ = some (.int .i64 a3_0) := (blk_cell HX2.out 0).trans rfl; have hx428 : w20.cell? ⟨w.heap.size + 1, 1, none⟩ = some (.int .i64 a3_1) := (blk_cell HX2.out 1).trans rfl; have hx429 : w20.cell? ⟨w.heap.size + 1, 2, none⟩ = some (.slice A3_2 l3_2.length c3_2) := (blk_cell HX2.out 2).trans rfl; have hl430 : gC68 < w20.heap.size := blk_lt HX67.out; have hx431 : w20.cell? ⟨gC68, 0, none⟩ = some (.int .i64 r51) := (blk_cell HX67.out 0).trans rfl; have hx432 : w20.cell? ⟨gC68, 1, none⟩ = some (.int .i64 r52) := (blk_cell HX67.out 1).trans rfl; have hx433 : w20.cell? ⟨gC68, 2, none⟩ = some (.slice Az58 r53.length cz58) := (blk_cell HX67.out 2).trans rfl; have hl434 : w7.heap.size < w20.heap.size := blk_lt HX99.out; have hx435 : w20.cell? ⟨w7.heap.size, 0, none⟩ = some (.int .i64 a1_0) := (blk_cell HX99.out 0).trans rfl; have hx436 : w20.cell? ⟨w7.heap.size, 1, none⟩ = some (.int .i64 a1_1) := (blk_cell HX99.out 1).trans rfl; have hx437 : w20.cell? ⟨w7.heap.size, 2, none⟩ = some (.slice Az86 (cvL l1_2).length cz86) := (blk_cell HX99.out 2).trans rfl; have hl438 : w8.heap.size < w20.heap.size := blk_lt HX120.out; have hx439 : w20.cell? ⟨w8.heap.size, 0, none⟩ = some (.int .i64 a3_0) := (blk_cell HX120.out 0).trans rfl; have hx440 : w20.cell? ⟨w8.heap.size, 1, none⟩ = some (.int .i64 a3_1) := (blk_cell HX120.out 1).trans rfl; have hx441 : w20.cell? ⟨w8.heap.size, 2, none⟩ = some (.slice Az103 (cvL l3_2).length cz103) := (blk_cell HX120.out 2).trans rfl; have hl442 : w9.heap.size < w20.heap.size := blk_lt HX145.out; have hx443 : w20.cell? ⟨w9.heap.size, 0, none⟩ = some (.int .i64 r51) := (blk_cell HX145.out 0).trans rfl; have hx444 : w20.cell? ⟨w9.heap.size, 1, none⟩ = some (.int .i64 r52) := (blk_cell HX145.out 1).trans rfl; have hx445 : w20.cell? ⟨w9.heap.size, 2, none⟩ = some (.slice Az124 r53.length cz124) := (blk_cell HX145.out 2).trans rfl) | (go_at_call 14; (with_reducible refine (laws_toGate.calls k a3_0 a3_1 _ _ l3_2 a3_0 a3_1 (cvL l3_2) _ ?side1 ?side2 A446.out).mono ?_); (case side1 => exact Kd.C_below HR3_2.out (by repeat (first | (with_reducible first | exact HB.out | apply below_alloc | apply pw_below_drewN | apply below_drew1) | exact HB.out))); (case side2 => exact HC3_2.out); rintro e w21 ⟨v100_, rfl, ho0_, hb⟩; (first | have hoz0_ := G_apart (g := w20.heap.size) (o := .cells #[(.int .i64 0 : Value), (.int .i64 0 : Value), (.slice none 0 0 : Value)] 29 (0, 0)) (by exact blk_new_at (by simp)) ho0_ | have hoz0_ := G_apart hz_.out ho0_ | skip); have n1_ := Aside0.mk (Kd.G_below (by (with_reducible repeat (first | apply Kd.G_alloc | apply Kd.G_drewN | apply Kd.G_drew)); exact HO57.out) hb); have n2_ := Aside0.mk (Kd.G_below (by (with_reducible repeat (first | apply Kd.G_alloc | apply Kd.G_drewN | apply Kd.G_drew)); exact HO85.out) hb); have n3_ := Aside0.mk (Kd.G_below (by (with_reducible repeat (first | apply Kd.G_alloc | apply Kd.G_drewN | apply Kd.G_drew)); exact HO102.out) hb); have n4_ := Aside0.mk (Kd.G_below (by (with_reducible repeat (first | apply Kd.G_alloc | apply Kd.G_drewN | apply Kd.G_drew)); exact HO123.out) hb); have n5_ := Aside0.mk (Kd.G_below (by (with_reducible repeat (first | apply Kd.G_alloc | apply Kd.G_drewN | apply Kd.G_drew)); exact HO420.out) hb); (try clear hzc0_); (try clear hzf0_); (try clear hzc1_); (try clear hzf1_); (try clear hzc2_); (try clear hzf2_); (try clear hzl_); (first | (have hzn_ := Aside0.mk (blk_below (g := w20.heap.size) (o := .cells #[(.int .i64 0 : Value), (.int .i64 0 : Value), (.slice none 0 0 : Value)] 29 (0, 0)) (by exact blk_new_at (by simp)) hb)) | (have hzn_ := Aside0.mk (blk_below (o := .cells #[(.int .i64 0 : Value), (.int .i64 0 : Value), (.slice none 0 0 : Value)] 29 (0, 0)) hz_.out hb); clear hz_) | skip); (try (have hz_ := hzn_; clear hzn_)); (try have hzc0_ : w21.cell? ⟨_, 0, none⟩ = some ((.int .i64 0 : Value)) := (blk_cell hz_.out 0).trans rfl); (try have hzf0_ := blk_frozen hz_.out 0); (try have hzc1_ : w21.cell? ⟨_, 1, none⟩ = some ((.int .i64 0 : Value)) := (blk_cell hz_.out 1).trans rfl); (try have hzf1_ := blk_frozen hz_.out 1); (try have hzc2_ : w21.cell? ⟨_, 2, none⟩ = some ((.slice none 0 0 : Value)) := (blk_cell hz_.out 2).trans rfl); (try have hzf2_ := blk_frozen hz_.out 2); (try have hzl_ := blk_lt hz_.out); have n6_ := Aside0.mk (blk_below (g := w.heap.size) (o := .cells #[.int .i64 a1_0, .int .i64 a1_1, .slice A1_2 l1_2.length c1_2] 24 (0, 0)) (by (with_reducible repeat (first | refine blk_drewN ?_ _ | refine blk_drew ?_ | refine blk_alloc ?_ _)); exact HX1.out) hb); have n7_ := Aside0.mk (blk_below (g := w.heap.size + 1) (o := .cells #[.int .i64 a3_0, .int .i64 a3_1, .slice A3_2 l3_2.length c3_2] 24 (0, 0)) (by (with_reducible repeat (first | refine blk_drewN ?_ _ | refine blk_drew ?_ | refine blk_alloc ?_ _)); exact HX2.out) hb); have n8_ := Aside0.mk (blk_below (g := gC68) (o := .cells #[.int .i64 r51, .int .i64 r52, .slice Az58 r53.length cz58] 29 (0, 0)) (by (with_reducible repeat (first | refine blk_drewN ?_ _ | refine blk_drew ?_ | refine blk_alloc ?_ _)); exact HX67.out) hb); have n9_ := Aside0.mk (blk_below (g := w7.heap.size) (o := .cells #[.int .i64 a1_0, .int .i64 a1_1, .slice Az86 (cvL l1_2).length cz86] 29 (0, 0)) (by (with_reducible repeat (first | refine blk_drewN ?_ _ | refine blk_drew ?_ | refine blk_alloc ?_ _)); exact HX99.out) hb); have n10_ := Aside0.mk (blk_below (g := w8.heap.size) (o := .cells #[.int .i64 a3_0, .int .i64 a3_1, .slice Az103 (cvL l3_2).length cz103] 29 (0, 0)) (by (with_reducible repeat (first | refine blk_drewN ?_ _ | refine blk_drew ?_ | refine blk_alloc ?_ _)); exact HX120.out) hb); have n11_ := Aside0.mk (blk_below (g := w9.heap.size) (o := .cells #[.int .i64 r51, .int .i64 r52, .slice Az124 r53.length cz124] 29 (0, 0)) (by (with_reducible repeat (first | refine blk_drewN ?_ _ | refine blk_drew ?_ | refine blk_alloc ?_ _)); exact HX145.out) hb); have n12_ := Aside0.mk (below_step (by repeat (first | (with_reducible first | exact HB.out | apply below_alloc | apply pw_below_drewN | apply below_drew1) | exact HB.out)) hb); have C447 : Aside0 (w20.heap.size ≤ w21.heap.size) := ⟨by have h_ := hb.size; (try simp at h_); omega⟩; have CCn_ := Aside0.mk (And.intro CC.out C447.out); clear CC; have CC := CCn_; clear CCn_; clear HO57; clear HO85; clear HO102; clear HO123; clear HO420; clear HX1; clear HX2; clear HX67; clear HX99; clear HX120; clear HX145; clear HB; clear hl422; clear hx423; clear hx424; clear hx425; clear hl426; clear hx427; clear hx428; clear hx429; clear hl430; clear hx431; clear hx432; clear hx433; clear hl434; clear hx435; clear hx436; clear hx437; clear hl438; clear hx439; clear hx440; clear hx441; clear hl442; clear hx443; clear hx444; clear hx445; have HO57 := n1_; clear n1_; have HO85 := n2_; clear n2_; have HO102 := n3_; clear n3_; have HO123 := n4_; clear n4_; have HO420 := n5_; clear n5_; have HX1 := n6_; clear n6_; have HX2 := n7_; clear n7_; have HX67 := n8_; clear n8_; have HX99 := n9_; clear n9_; have HX120 := n10_; clear n10_; have HX145 := n11_; clear n11_; have HB := n12_; clear n12_; have HO448 := Aside0.mk (Kd.G_lower (base' := w.heap.size) (Kd.G_mono (Kd.G_bound ho0_) (ok' := fun k_ => w20.heap.size ≤ k_ ∧ k_ < w21.heap.size) (fun k_ hk_ => ⟨by have h_ := hk_.2.1; (try simp at h_); omega, hk_.2.2.1⟩)) (by have := CC.out; first | omega | (simp; done) | (simp; omega))); obtain ⟨Az449, cz449, ez449⟩ := Kd.G_slice HO448.out; subst ez449; (try have HO448z := Aside0.mk (G_bound2 (Pq := fun k_ => w20.heap.size ≤ k_ ∧ k_ < w21.heap.size) (base' := w.heap.size) hoz0_ (fun k_ h1_ h2_ => ⟨by (try simp at h1_); omega, h2_⟩) (by have := CC.out; first | omega | (simp; done) | (simp; omega)))); (try clear hoz0_); (try clear hb); (try clear ho0_); have hl450 : w.heap.size < w21.heap.size := blk_lt HX1.out; have hx451 : w21.cell? ⟨w.heap.size, 0, none⟩ = some (.int .i64 a1_0) := (blk_cell HX1.out 0).trans rfl; have hx452 : w21.cell? ⟨w.heap.size, 1, none⟩ = some (.int .i64 a1_1) := (blk_cell HX1.out 1).trans rfl; have hx453 : w21.cell? ⟨w.heap.size, 2, none⟩ = some (.slice A1_2 l1_2.length c1_2) := (blk_cell HX1.out 2).trans rfl; have hl454 : w.heap.size + 1 < w21.heap.size := blk_lt HX2.out; have hx455 : w21.cell? ⟨w.heap.size + 1, 0, none⟩ = some (.int .i64 a3_0) := (blk_cell HX2.out 0).trans rfl; have hx456 : w21.cell? ⟨w.heap.size + 1, 1, none⟩ = some (.int .i64 a3_1) := (blk_cell HX2.out 1).trans rfl; have hx457 : w21.cell? ⟨w.heap.size + 1, 2, none⟩ = some (.slice A3_2 l3_2.length c3_2) := (blk_cell HX2.out 2).trans rfl; have hl458 : gC68 < w21.heap.size := blk_lt HX67.out; have hx459 : w21.cell? ⟨gC68, 0, none⟩ = some (.int .i64 r51) := (blk_cell HX67.out 0).trans rfl; have hx460 : w21.cell? ⟨gC68, 1, none⟩ = some (.int .i64 r52) := (blk_cell HX67.out 1).trans rfl; have hx461 : w21.cell? ⟨gC68, 2, none⟩ = some (.slice Az58 r53.length cz58) := (blk_cell HX67.out 2).trans rfl; have hl462 : w7.heap.size < w21.heap.size := blk_lt HX99.out; have hx463 : w21.cell? ⟨w7.heap.size, 0, none⟩ = some (.int .i64 a1_0) := (blk_cell HX99.out 0).trans rfl; have hx464 : w21.cell? ⟨w7.heap.size, 1, none⟩ = some (.int .i64 a1_1) := (blk_cell HX99.out 1).trans rfl; have hx465 : w21.cell? ⟨w7.heap.size, 2, none⟩ = some (.slice Az86 (cvL l1_2).length cz86) := (blk_cell HX99.out 2).trans rfl; have hl466 : w8.heap.size < w21.heap.size := blk_lt HX120.out; have hx467 : w21.cell? ⟨w8.heap.size, 0, none⟩ = some (.int .i64 a3_0) := (blk_cell HX120.out 0).trans rfl; have hx468 : w21.cell? ⟨w8.heap.size, 1, none⟩ = some (.int .i64 a3_1) := (blk_cell HX120.out 1).trans rfl; have hx469 : w21.cell? ⟨w8.heap.size, 2, none⟩ = some (.slice Az103 (cvL l3_2).length cz103) := (blk_cell HX120.out 2).trans rfl; have hl470 : w9.heap.size < w21.heap.size := blk_lt HX145.out; have hx471 : w21.cell? ⟨w9.heap.size, 0, none⟩ = some (.int .i64 r51) := (blk_cell HX145.out 0).trans rfl; have hx472 : w21.cell? ⟨w9.heap.size, 1, none⟩ = some (.int .i64 r52) := (blk_cell HX145.out 1).trans rfl; have hx473 : w21.cell? ⟨w9.heap.size, 2, none⟩ = some (.slice Az124 r53.length cz124) := (blk_cell HX145.out 2).trans rfl) | (go_at_call 36; (with_reducible refine (impl_PutGate.calls k a0 a1_0 a1_1 _ _ (cvL l1_2) a2 a3_0 a3_1 _ _ (cvL l3_2) r51 r52 r53 r54 _ ?side1 ?side2 ?side3 ?side4 A474.out).mono ?_); (case side1 => exact (Kd.G_reads' (n := (cvL l1_2).length) (A := Az421) (c := cz421) (by (with_reducible repeat (first | apply Kd.G_alloc | apply Kd.G_drewN | apply Kd.G_drew)); exact HO420.out)).2.2); (case side2 => exact (Kd.G_reads' (n := (cvL l1_2).length) (A := Az421) (c := cz421) HO420.out).2.1); (case side3 => exact (Kd.G_reads' (n := (cvL l3_2).length) (A := Az449) (c := cz449) (by (with_reducible repeat (first | apply Kd.G_alloc | apply Kd.G_drewN | apply Kd.G_drew)); exact HO448.out)).2.2); (case side4 => exact (Kd.G_reads' (n := (cvL l3_2).length) (A := Az449) (c := cz449) HO448.out).2.1); rintro e w22 ⟨v100_, rfl, ho0_, hb⟩; (first | have hoz0_ := G_apart (g := w21.heap.size) (o := .cells #[(.int .i64 0 : Value), (.int .i64 0 : Value), (.slice none 0 0 : Value)] 29 (0, 0)) (by exact blk_new_at (by simp)) ho0_ | have hoz0_ := G_apart hz_.out ho0_ | skip); have n1_ := Aside0.mk (Kd.G_below (by (with_reducible repeat (first | apply Kd.G_alloc | apply Kd.G_drewN | apply Kd.G_drew)); exact HO57.out) hb); have n2_ := Aside0.mk (Kd.G_below (by (with_reducible repeat (first | apply Kd.G_alloc | apply Kd.G_drewN | apply Kd.G_drew)); exact HO85.out) hb); have n3_ := Aside0.mk (Kd.G_below (by (with_reducible repeat (first | apply Kd.G_alloc | apply Kd.G_drewN | apply Kd.G_drew)); exact HO102.out) hb); have n4_ := Aside0.mk (Kd.G_below (by (with_reducible repeat (first | apply Kd.G_alloc | apply Kd.G_drewN | apply Kd.G_drew)); exact HO123.out) hb); have n5_ := Aside0.mk (Kd.G_below (by (with_reducible repeat (first | apply Kd.G_alloc | apply Kd.G_drewN | apply Kd.G_drew)); exact HO420.out) hb); have n6_ := Aside0.mk (Kd.G_below (by (with_reducible repeat (first | apply Kd.G_alloc | apply Kd.G_drewN | apply Kd.G_drew)); exact HO448.out) hb); (try clear hzc0_); (try clear hzf0_); (try clear hzc1_); (try clear hzf1_); (try clear hzc2_); (try clear hzf2_); (try clear hzl_); (first | (have hzn_ := Aside0.mk (blk_below (g := w21.heap.size) (o := .cells #[(.int .i64 0 : Value), (.int .i64 0 : Value), (.slice none 0 0 : Value)] 29 (0, 0)) (by exact blk_new_at (by simp)) hb)) | (have hzn_ := Aside0.mk (blk_below (o := .cells #[(.int .i64 0 : Value), (.int .i64 0 : Value), (.slice none 0 0 : Value)] 29 (0, 0)) hz_.out hb); clear hz_) | skip); (try (have hz_ := hzn_; clear hzn_)); (try have hzc0_ : w22.cell? ⟨_, 0, none⟩ = some ((.int .i64 0 : Value)) := (blk_cell hz_.out 0).trans rfl); (try have hzf0_ := blk_frozen hz_.out 0); (try have hzc1_ : w22.cell? ⟨_, 1, none⟩ = some ((.int .i64 0 : Value)) := (blk_cell hz_.out 1).trans rfl); (try have hzf1_ := blk_frozen hz_.out 1); (try have hzc2_ : w22.cell? ⟨_, 2, none⟩ = some ((.slice none 0 0 : Value)) := (blk_cell hz_.out 2).trans rfl); (try have hzf2_ := blk_frozen hz_.out 2); (try have hzl_ := blk_lt hz_.out); have n7_ := Aside0.mk (blk_below (g := w.heap.size) (o := .cells #[.int .i64 a1_0, .int .i64 a1_1, .slice A1_2 l1_2.length c1_2] 24 (0, 0)) (by (with_reducible repeat (first | refine blk_drewN ?_ _ | refine blk_drew ?_ | refine blk_alloc ?_ _)); exact HX1.out) hb); have n8_ := Aside0.mk (blk_below (g := w.heap.size + 1) (o := .cells #[.int .i64 a3_0, .int .i64 a3_1, .slice A3_2 l3_2.length c3_2] 24 (0, 0)) (by (with_reducible repeat (first | refine blk_drewN ?_ _ | refine blk_drew ?_ | refine blk_alloc ?_ _)); exact HX2.out) hb); have n9_ := Aside0.mk (blk_below (g := gC68) (o := .cells #[.int .i64 r51, .int .i64 r52, .slice Az58 r53.length cz58] 29 (0, 0)) (by (with_reducible repeat (first | refine blk_drewN ?_ _ | refine blk_drew ?_ | refine blk_alloc ?_ _)); exact HX67.out) hb); have n10_ := Aside0.mk (blk_below (g := w7.heap.size) (o := .cells #[.int .i64 a1_0, .int .i64 a1_1, .slice Az86 (cvL l1_2).length cz86] 29 (0, 0)) (by (with_reducible repeat (first | refine blk_drewN ?_ _ | refine blk_drew ?_ | refine blk_alloc ?_ _)); exact HX99.out) hb); have n11_ := Aside0.mk (blk_below (g := w8.heap.size) (o := .cells #[.int .i64 a3_0, .int .i64 a3_1, .slice Az103 (cvL l3_2).length cz103] 29 (0, 0)) (by (with_reducible repeat (first | refine blk_drewN ?_ _ | refine blk_drew ?_ | refine blk_alloc ?_ _)); exact HX120.out) hb); have n12_ := Aside0.mk (blk_below (g := w9.heap.size) (o := .cells #[.int .i64 r51, .int .i64 r52, .slice Az124 r53.length cz124] 29 (0, 0)) (by (with_reducible repeat (first | refine blk_drewN ?_ _ | refine blk_drew ?_ | refine blk_alloc ?_ _)); exact HX145.out) hb); have n13_ := Aside0.mk (below_step (by repeat (first | (with_reducible first | exact HB.out | apply below_alloc | apply pw_below_drewN | apply below_drew1) | exact HB.out)) hb); have C475 : Aside0 (w21.heap.size ≤ w22.heap.size) := ⟨by have h_ := hb.size; (try simp at h_); omega⟩; have CCn_ := Aside0.mk (And.intro CC.out C475.out); clear CC; have CC := CCn_; clear CCn_; clear HO57; clear HO85; clear HO102; clear HO123; clear HO420; clear HO448; clear HX1; clear HX2; clear HX67; clear HX99; clear HX120; clear HX145; clear HB; clear hl450; clear hx451; clear hx452; clear hx453; clear hl454; clear hx455; clear hx456; clear hx457; clear hl458; clear hx459; clear hx460; clear hx461; clear hl462; clear hx463; clear hx464; clear hx465; clear hl466; clear hx467; clear hx468; clear hx469; clear hl470; clear hx471; clear hx472; clear hx473; have HO57 := n1_; clear n1_; have HO85 := n2_; clear n2_; have HO102 := n3_; clear n3_; have HO123 := n4_; clear n4_; have HO420 := n5_; clear n5_; have HO448 := n6_; clear n6_; have HX1 := n7_; clear n7_; have HX2 := n8_; clear n8_; have HX67 := n9_; clear n9_; have HX99 := n10_; clear n10_; have HX120 := n11_; clear n11_; have HX145 := n12_; clear n12_; have HB := n13_; clear n13_; have HO476 := Aside0.mk (Kd.G_lower (base' := w.heap.size) (Kd.G_mono (Kd.G_bound ho0_) (ok' := fun k_ => w21.heap.size ≤ k_ ∧ k_ < w22.heap.size) (fun k_ hk_ => ⟨by have h_ := hk_.2.1; (try simp at h_); omega, hk_.2.2.1⟩)) (by have := CC.out; first | omega | (simp; done) | (simp; omega))); obtain ⟨Az477, cz477, ez477⟩ := Kd.G_slice HO476.out; subst ez477; (try have HO476z := Aside0.mk (G_bound2 (Pq := fun k_ => w21.heap.size ≤ k_ ∧ k_ < w22.heap.size) (base' := w.heap.size) hoz0_ (fun k_ h1_ h2_ => ⟨by (try simp at h1_); omega, h2_⟩) (by have := CC.out; first | omega | (simp; done) | (simp; omega)))); (try clear hoz0_); (try clear hb); (try clear ho0_); have hl478 : w.heap.size < w22.heap.size := blk_lt HX1.out; have hx479 : w22.cell? ⟨w.heap.size, 0, none⟩ = some (.int .i64 a1_0) := (blk_cell HX1.out 0).trans rfl; have hx480 : w22.cell? ⟨w.heap.size, 1, none⟩ = some (.int .i64 a1_1) := (blk_cell HX1.out 1).trans rfl; have hx481 : w22.cell? ⟨w.heap.size, 2, none⟩ = some (.slice A1_2 l1_2.length c1_2) := (blk_cell HX1.out 2).trans rfl; have hl482 : w.heap.size + 1 < w22.heap.size := blk_lt HX2.out; have hx483 : w22.cell? ⟨w.heap.size + 1, 0, none⟩ = some (.int .i64 a3_0) := (blk_cell HX2.out 0).trans rfl; have hx484 : w22.cell? ⟨w.heap.size + 1, 1, none⟩ = some (.int .i64 a3_1) := (blk_cell HX2.out 1).trans rfl; have hx485 : w22.cell? ⟨w.heap.size + 1, 2, none⟩ = some (.slice A3_2 l3_2.length c3_2) := (blk_cell HX2.out 2).trans rfl; have hl486 : gC68 < w22.heap.size := blk_lt HX67.out; have hx487 : w22.cell? ⟨gC68, 0, none⟩ = some (.int .i64 r51) := (blk_cell HX67.out 0).trans rfl; have hx488 : w22.cell? ⟨gC68, 1, none⟩ = some (.int .i64 r52) := (blk_cell HX67.out 1).trans rfl; have hx489 : w22.cell? ⟨gC68, 2, none⟩ = some (.slice Az58 r53.length cz58) := (blk_cell HX67.out 2).trans rfl; have hl490 : w7.heap.size < w22.heap.size := blk_lt HX99.out; have hx491 : w22.cell? ⟨w7.heap.size, 0, none⟩ = some (.int .i64 a1_0) := (blk_cell HX99.out 0).trans rfl; have hx492 : w22.cell? ⟨w7.heap.size, 1, none⟩ = some (.int .i64 a1_1) := (blk_cell HX99.out 1).trans rfl; have hx493 : w22.cell? ⟨w7.heap.size, 2, none⟩ = some (.slice Az86 (cvL l1_2).length cz86) := (blk_cell HX99.out 2).trans rfl; have hl494 : w8.heap.size < w22.heap.size := blk_lt HX120.out; have hx495 : w22.cell? ⟨w8.heap.size, 0, none⟩ = some (.int .i64 a3_0) := (blk_cell HX120.out 0).trans rfl; have hx496 : w22.cell? ⟨w8.heap.size, 1, none⟩ = some (.int .i64 a3_1) := (blk_cell HX120.out 1).trans rfl; have hx497 : w22.cell? ⟨w8.heap.size, 2, none⟩ = some (.slice Az103 (cvL l3_2).length cz103) := (blk_cell HX120.out 2).trans rfl; have hl498 : w9.heap.size < w22.heap.size := blk_lt HX145.out; have hx499 : w22.cell? ⟨w9.heap.size, 0, none⟩ = some (.int .i64 r51) := (blk_cell HX145.out 0).trans rfl; have hx500 : w22.cell? ⟨w9.heap.size, 1, none⟩ = some (.int .i64 r52) := (blk_cell HX145.out 1).trans rfl; have hx501 : w22.cell? ⟨w9.heap.size, 2, none⟩ = some (.slice Az124 r53.length cz124) := (blk_cell HX145.out 2).trans rfl))
    all_goals (go_wp2_with fail; go_meet; first | (have hq_ := hz_.out; clear hq_; exact ⟨_, _, _, rfl, rfl, ⟨Kd.G_mono (Kd.G_far (p := ⟨_, 2, none⟩) (Kd.G_far (p := ⟨_, 1, none⟩) (Kd.G_far (p := ⟨_, 0, none⟩) (HO476z.out) (fun k_ hk_ => hk_.2) _) (fun k_ hk_ => hk_.2) _) (fun k_ hk_ => hk_.2) _) (fun k_ hk_ => ⟨by have := CC.out; have h1_ := hk_.1.1; omega, by rw [size_set, size_set, size_set]; exact hk_.1.2⟩)⟩, ⟨blk_put (blk_put (blk_put (hz_.out) 0 _ rfl) 1 _ rfl) 2 _ rfl⟩, ⟨Kd.G_far (p := ⟨_, 2, none⟩) (Kd.G_far (p := ⟨_, 1, none⟩) (Kd.G_far (p := ⟨_, 0, none⟩) (HO57.out) (fun k_ hk_ => by have := CC.out; have h1_ := hk_; dsimp only; omega) _) (fun k_ hk_ => by have := CC.out; have h1_ := hk_; dsimp only; omega) _) (fun k_ hk_ => by have := CC.out; have h1_ := hk_; dsimp only; omega) _⟩, ⟨Kd.G_far (p := ⟨_, 2, none⟩) (Kd.G_far (p := ⟨_, 1, none⟩) (Kd.G_far (p := ⟨_, 0, none⟩) (HO85.out) (fun k_ hk_ => by have := CC.out; have h1_ := hk_; dsimp only; omega) _) (fun k_ hk_ => by have := CC.out; have h1_ := hk_; dsimp only; omega) _) (fun k_ hk_ => by have := CC.out; have h1_ := hk_; dsimp only; omega) _⟩, ⟨Kd.G_far (p := ⟨_, 2, none⟩) (Kd.G_far (p := ⟨_, 1, none⟩) (Kd.G_far (p := ⟨_, 0, none⟩) (HO102.out) (fun k_ hk_ => by have := CC.out; have h1_ := hk_; dsimp only; omega) _) (fun k_ hk_ => by have := CC.out; have h1_ := hk_; dsimp only; omega) _) (fun k_ hk_ => by have := CC.out; have h1_ := hk_; dsimp only; omega) _⟩, ⟨Kd.G_far (p := ⟨_, 2, none⟩) (Kd.G_far (p := ⟨_, 1, none⟩) (Kd.G_far (p := ⟨_, 0, none⟩) (HO123.out) (fun k_ hk_ => by have := CC.out; have h1_ := hk_; dsimp only; omega) _) (fun k_ hk_ => by have := CC.out; have h1_ := hk_; dsimp only; omega) _) (fun k_ hk_ => by have := CC.out; have h1_ := hk_; dsimp only; omega) _⟩, ⟨blk_far (p := ⟨_, 2, none⟩) (blk_far (p := ⟨_, 1, none⟩) (blk_far (p := ⟨_, 0, none⟩) (HX1.out) (by have := CC.out; dsimp only; omega) _) (by have := CC.out; dsimp only; omega) _) (by have := CC.out; dsimp only; omega) _⟩, ⟨blk_far (p := ⟨_, 2, none⟩) (blk_far (p := ⟨_, 1, none⟩) (blk_far (p := ⟨_, 0, none⟩) (HX2.out) (by have := CC.out; dsimp only; omega) _) (by have := CC.out; dsimp only; omega) _) (by have := CC.out; dsimp only; omega) _⟩, ⟨blk_far (p := ⟨_, 2, none⟩) (blk_far (p := ⟨_, 1, none⟩) (blk_far (p := ⟨_, 0, none⟩) (HX67.out) (by have := CC.out; dsimp only; omega) _) (by have := CC.out; dsimp only; omega) _) (by have := CC.out; dsimp only; omega) _⟩, ⟨blk_far (p := ⟨_, 2, none⟩) (blk_far (p := ⟨_, 1, none⟩) (blk_far (p := ⟨_, 0, none⟩) (HX99.out) (by have := CC.out; dsimp only; omega) _) (by have := CC.out; dsimp only; omega) _) (by have := CC.out; dsimp only; omega) _⟩, ⟨blk_far (p := ⟨_, 2, none⟩) (blk_far (p := ⟨_, 1, none⟩) (blk_far (p := ⟨_, 0, none⟩) (HX120.out) (by have := CC.out; dsimp only; omega) _) (by have := CC.out; dsimp only; omega) _) (by have := CC.out; dsimp only; omega) _⟩, ⟨blk_far (p := ⟨_, 2, none⟩) (blk_far (p := ⟨_, 1, none⟩) (blk_far (p := ⟨_, 0, none⟩) (HX145.out) (by have := CC.out; dsimp only; omega) _) (by have := CC.out; dsimp only; omega) _) (by have := CC.out; dsimp only; omega) _⟩, ⟨below_set (below_set (below_set (HB.out) (by have := CC.out; omega)) (by have := CC.out; omega)) (by have := CC.out; omega)⟩, ⟨by rw [size_set, size_set, size_set]; have := CC.out; omega⟩⟩) | exact ⟨_, _, _, rfl, rfl, ⟨Kd.G_mono (Kd.G_alloc HO476.out _) (fun k_ hk_ => ⟨by have := CC.out; have h1_ := hk_.1; omega, lt_alloc hk_.2⟩)⟩, ⟨blk_new _ _⟩, ⟨Kd.G_alloc HO57.out _⟩, ⟨Kd.G_alloc HO85.out _⟩, ⟨Kd.G_alloc HO102.out _⟩, ⟨Kd.G_alloc HO123.out _⟩, ⟨blk_alloc HX1.out _⟩, ⟨blk_alloc HX2.out _⟩, ⟨blk_alloc HX67.out _⟩, ⟨blk_alloc HX99.out _⟩, ⟨blk_alloc HX120.out _⟩, ⟨blk_alloc HX145.out _⟩, ⟨below_alloc HB.out _⟩, ⟨le_alloc (by have := CC.out; omega)⟩⟩)
  case rest =>
  (try clear hl393)
  (try clear hx394)
  (try clear hx395)
  (try clear hx396)
  (try clear hl397)
  (try clear hx398)
  (try clear hx399)
  (try clear hx400)
  (try clear hl401)
  (try clear hx402)
  (try clear hx403)
  (try clear hx404)
  (try clear hl405)
  (try clear hx406)
  (try clear hx407)
  (try clear hx408)
  (try clear hl409)
  (try clear hx410)
  (try clear hx411)
  (try clear hx412)
  (try clear hl413)
  (try clear hx414)
  (try clear hx415)
  (try clear hx416)
  (try clear HO57)
  (try clear HO85)
  (try clear HO102)
  (try clear HO123)
  (try clear HX1)
  (try clear HX2)
  (try clear HX67)
  (try clear HX99)
  (try clear HX120)
  (try clear HX145)
  (try clear HB)
  obtain ⟨gC503, Az477, cz477, rfl, rfl, HO476, HX502, HO57, HO85, HO102, HO123, HX1, HX2, HX67, HX99, HX120, HX145, HB, C504⟩ := hcut
  rename World => w23
  have C505 : Aside0 (gC503 + 1 ≤ w23.heap.size) := ⟨blk_lt HX502.out⟩
  have CCn_ := Aside0.mk (And.intro CC.out C504.out)
  clear CC
  have CC := CCn_
  clear CCn_
  have CCn_ := Aside0.mk (And.intro CC.out C505.out)
  clear CC
  have CC := CCn_
  clear CCn_
  have hl506 : w.heap.size < w23.heap.size := blk_lt HX1.out
  have hx507 : w23.cell? ⟨w.heap.size, 0, none⟩ = some (.int .i64 a1_0) := (blk_cell HX1.out 0).trans rfl
  have hx508 : w23.cell? ⟨w.heap.size, 1, none⟩ = some (.int .i64 a1_1) := (blk_cell HX1.out 1).trans rfl
  have hx509 : w23.cell? ⟨w.heap.size, 2, none⟩ = some (.slice A1_2 l1_2.length c1_2) := (blk_cell HX1.out 2).trans rfl
  have hl510 : w.heap.size + 1 < w23.heap.size := blk_lt HX2.out
  have hx511 : w23.cell? ⟨w.heap.size + 1, 0, none⟩ = some (.int .i64 a3_0) := (blk_cell HX2.out 0).trans rfl
  have hx512 : w23.cell? ⟨w.heap.size + 1, 1, none⟩ = some (.int .i64 a3_1) := (blk_cell HX2.out 1).trans rfl
  have hx513 : w23.cell? ⟨w.heap.size + 1, 2, none⟩ = some (.slice A3_2 l3_2.length c3_2) := (blk_cell HX2.out 2).trans rfl
  have hl514 : gC68 < w23.heap.size := blk_lt HX67.out
  have hx515 : w23.cell? ⟨gC68, 0, none⟩ = some (.int .i64 r51) := (blk_cell HX67.out 0).trans rfl
  have hx516 : w23.cell? ⟨gC68, 1, none⟩ = some (.int .i64 r52) := (blk_cell HX67.out 1).trans rfl
  have hx517 : w23.cell? ⟨gC68, 2, none⟩ = some (.slice Az58 r53.length cz58) := (blk_cell HX67.out 2).trans rfl
  have hl518 : w7.heap.size < w23.heap.size := blk_lt HX99.out
  have hx519 : w23.cell? ⟨w7.heap.size, 0, none⟩ = some (.int .i64 a1_0) := (blk_cell HX99.out 0).trans rfl
  have hx520 : w23.cell? ⟨w7.heap.size, 1, none⟩ = some (.int .i64 a1_1) := (blk_cell HX99.out 1).trans rfl
  have hx521 : w23.cell? ⟨w7.heap.size, 2, none⟩ = some (.slice Az86 (cvL l1_2).length cz86) := (blk_cell HX99.out 2).trans rfl
  have hl522 : w8.heap.size < w23.heap.size := blk_lt HX120.out
  have hx523 : w23.cell? ⟨w8.heap.size, 0, none⟩ = some (.int .i64 a3_0) := (blk_cell HX120.out 0).trans rfl
  have hx524 : w23.cell? ⟨w8.heap.size, 1, none⟩ = some (.int .i64 a3_1) := (blk_cell HX120.out 1).trans rfl
  have hx525 : w23.cell? ⟨w8.heap.size, 2, none⟩ = some (.slice Az103 (cvL l3_2).length cz103) := (blk_cell HX120.out 2).trans rfl
  have hl526 : w9.heap.size < w23.heap.size := blk_lt HX145.out
  have hx527 : w23.cell? ⟨w9.heap.size, 0, none⟩ = some (.int .i64 r51) := (blk_cell HX145.out 0).trans rfl
  have hx528 : w23.cell? ⟨w9.heap.size, 1, none⟩ = some (.int .i64 r52) := (blk_cell HX145.out 1).trans rfl
  have hx529 : w23.cell? ⟨w9.heap.size, 2, none⟩ = some (.slice Az124 r53.length cz124) := (blk_cell HX145.out 2).trans rfl
  have hl530 : gC503 < w23.heap.size := blk_lt HX502.out
  have hx531 : w23.cell? ⟨gC503, 0, none⟩ = some (.int .i64 r51) := (blk_cell HX502.out 0).trans rfl
  have hx532 : w23.cell? ⟨gC503, 1, none⟩ = some (.int .i64 r52) := (blk_cell HX502.out 1).trans rfl
  have hx533 : w23.cell? ⟨gC503, 2, none⟩ = some (.slice Az477 r53.length cz477) := (blk_cell HX502.out 2).trans rfl
  go_wp2_with (first | ((with_reducible refine gate_callee (f := 16) rfl ?_); refine goesL_ (some 114) rfl rfl Try.func16 (by kernel_rfl) rfl #[.agg #[.int .i64 r51, .int .i64 r52, .slice Az477 r53.length cz477], .agg #[.int .i64 r51, .int .i64 r52, .slice Az58 r53.length cz58]] rfl (by (try simp only [List.map_toArray, List.map_cons, List.map_nil]); first | done | rfl | (simp only [List.length_drop, List.length_take]; rfl)) ?_; (with_reducible refine (laws_eqGate.calls k r51 r52 _ _ r53 r51 r52 _ _ r53 true _ ?side1 ?side2 ?side3 ?side4 A534.out).mono ?_); (case side1 => exact (Kd.G_reads' (n := r53.length) (A := Az477) (c := cz477) (by (with_reducible repeat (first | apply Kd.G_alloc | apply Kd.G_drewN | apply Kd.G_drew)); exact HO476.out)).2.2); (case side2 => exact (Kd.G_reads' (n := r53.length) (A := Az477) (c := cz477) HO476.out).2.1); (case side3 => exact (Kd.G_reads' (n := r53.length) (A := Az58) (c := cz58) (by (with_reducible repeat (first | apply Kd.G_alloc | apply Kd.G_drewN | apply Kd.G_drew)); exact HO57.out)).2.2); (case side4 => exact (Kd.G_reads' (n := r53.length) (A := Az58) (c := cz58) HO57.out).2.1); rintro e w24 ⟨rfl, hb⟩; refine ⟨_, rfl, ?_⟩; have n1_ := Aside0.mk (Kd.G_below (by (with_reducible repeat (first | apply Kd.G_alloc | apply Kd.G_drewN | apply Kd.G_drew)); exact HO57.out) hb); have n2_ := Aside0.mk (Kd.G_below (by (with_reducible repeat (first | apply Kd.G_alloc | apply Kd.G_drewN | apply Kd.G_drew)); exact HO85.out) hb); have n3_ := Aside0.mk (Kd.G_below (by (with_reducible repeat (first | apply Kd.G_alloc | apply Kd.G_drewN | apply Kd.G_drew)); exact HO102.out) hb); have n4_ := Aside0.mk (Kd.G_below (by (with_reducible repeat (first | apply Kd.G_alloc | apply Kd.G_drewN | apply Kd.G_drew)); exact HO123.out) hb); have n5_ := Aside0.mk (Kd.G_below (by (with_reducible repeat (first | apply Kd.G_alloc | apply Kd.G_drewN | apply Kd.G_drew)); exact HO476.out) hb); have n6_ := Aside0.mk (blk_below (g := w.heap.size) (o := .cells #[.int .i64 a1_0, .int .i64 a1_1, .slice A1_2 l1_2.length c1_2] 24 (0, 0)) (by (with_reducible repeat (first | refine blk_drewN ?_ _ | refine blk_drew ?_ | refine blk_alloc ?_ _)); exact HX1.out) hb); have n7_ := Aside0.mk (blk_below (g := w.heap.size + 1) (o := .cells #[.int .i64 a3_0, .int .i64 a3_1, .slice A3_2 l3_2.length c3_2] 24 (0, 0)) (by (with_reducible repeat (first | refine blk_drewN ?_ _ | refine blk_drew ?_ | refine blk_alloc ?_ _)); exact HX2.out) hb); have n8_ := Aside0.mk (blk_below (g := gC68) (o := .cells #[.int .i64 r51, .int .i64 r52, .slice Az58 r53.length cz58] 29 (0, 0)) (by (with_reducible repeat (first | refine blk_drewN ?_ _ | refine blk_drew ?_ | refine blk_alloc ?_ _)); exact HX67.out) hb); have n9_ := Aside0.mk (blk_below (g := w7.heap.size) (o := .cells #[.int .i64 a1_0, .int .i64 a1_1, .slice Az86 (cvL l1_2).length cz86] 29 (0, 0)) (by (with_reducible repeat (first | refine blk_drewN ?_ _ | refine blk_drew ?_ | refine blk_alloc ?_ _)); exact HX99.out) hb); have n10_ := Aside0.mk (blk_below (g := w8.heap.size) (o := .cells #[.int .i64 a3_0, .int .i64 a3_1, .slice Az103 (cvL l3_2).length cz103] 29 (0, 0)) (by (with_reducible repeat (first | refine blk_drewN ?_ _ | refine blk_drew ?_ | refine blk_alloc ?_ _)); exact HX120.out) hb); have n11_ := Aside0.mk (blk_below (g := w9.heap.size) (o := .cells #[.int .i64 r51, .int .i64 r52, .slice Az124 r53.length cz124] 29 (0, 0)) (by (with_reducible repeat (first | refine blk_drewN ?_ _ | refine blk_drew ?_ | refine blk_alloc ?_ _)); exact HX145.out) hb); have n12_ := Aside0.mk (blk_below (g := gC503) (o := .cells #[.int .i64 r51, .int .i64 r52, .slice Az477 r53.length cz477] 29 (0, 0)) (by (with_reducible repeat (first | refine blk_drewN ?_ _ | refine blk_drew ?_ | refine blk_alloc ?_ _)); exact HX502.out) hb); have n13_ := Aside0.mk (below_step (by repeat (first | (with_reducible first | exact HB.out | apply below_alloc | apply pw_below_drewN | apply below_drew1) | exact HB.out)) hb); have C535 : Aside0 (w23.heap.size ≤ w24.heap.size) := ⟨by have h_ := hb.size; (try simp at h_); omega⟩; have CCn_ := Aside0.mk (And.intro CC.out C535.out); clear CC; have CC := CCn_; clear CCn_; clear HO57; clear HO85; clear HO102; clear HO123; clear HO476; clear HX1; clear HX2; clear HX67; clear HX99; clear HX120; clear HX145; clear HX502; clear HB; clear hl506; clear hx507; clear hx508; clear hx509; clear hl510; clear hx511; clear hx512; clear hx513; clear hl514; clear hx515; clear hx516; clear hx517; clear hl518; clear hx519; clear hx520; clear hx521; clear hl522; clear hx523; clear hx524; clear hx525; clear hl526; clear hx527; clear hx528; clear hx529; clear hl530; clear hx531; clear hx532; clear hx533; have HO57 := n1_; clear n1_; have HO85 := n2_; clear n2_; have HO102 := n3_; clear n3_; have HO123 := n4_; clear n4_; have HO476 := n5_; clear n5_; have HX1 := n6_; clear n6_; have HX2 := n7_; clear n7_; have HX67 := n8_; clear n8_; have HX99 := n9_; clear n9_; have HX120 := n10_; clear n10_; have HX145 := n11_; clear n11_; have HX502 := n12_; clear n12_; have HB := n13_; clear n13_; (try clear hb); have hl536 : w.heap.size < w24.heap.size := blk_lt HX1.out; have hx537 : w24.cell? ⟨w.heap.size, 0, none⟩ = some (.int .i64 a1_0) := (blk_cell HX1.out 0).trans rfl; have hx538 : w24.cell? ⟨w.heap.size, 1, none⟩ = some (.int .i64 a1_1) := (blk_cell HX1.out 1).trans rfl; have hx539 : w24.cell? ⟨w.heap.size, 2, none⟩ = some (.slice A1_2 l1_2.length c1_2) := (blk_cell HX1.out 2).trans rfl; have hl540 : w.heap.size + 1 < w24.heap.size := blk_lt HX2.out; have hx541 : w24.cell? ⟨w.heap.size + 1, 0, none⟩ = some (.int .i64 a3_0) := (blk_cell HX2.out 0).trans rfl; have hx542 : w24.cell? ⟨w.heap.size + 1, 1, none⟩ = some (.int .i64 a3_1) := (blk_cell HX2.out 1).trans rfl; have hx543 : w24.cell? ⟨w.heap.size + 1, 2, none⟩ = some (.slice A3_2 l3_2.length c3_2) := (blk_cell HX2.out 2).trans rfl; have hl544 : gC68 < w24.heap.size := blk_lt HX67.out; have hx545 : w24.cell? ⟨gC68, 0, none⟩ = some (.int .i64 r51) := (blk_cell HX67.out 0).trans rfl; have hx546 : w24.cell? ⟨gC68, 1, none⟩ = some (.int .i64 r52) := (blk_cell HX67.out 1).trans rfl; have hx547 : w24.cell? ⟨gC68, 2, none⟩ = some (.slice Az58 r53.length cz58) := (blk_cell HX67.out 2).trans rfl; have hl548 : w7.heap.size < w24.heap.size := blk_lt HX99.out; have hx549 : w24.cell? ⟨w7.heap.size, 0, none⟩ = some (.int .i64 a1_0) := (blk_cell HX99.out 0).trans rfl; have hx550 : w24.cell? ⟨w7.heap.size, 1, none⟩ = some (.int .i64 a1_1) := (blk_cell HX99.out 1).trans rfl; have hx551 : w24.cell? ⟨w7.heap.size, 2, none⟩ = some (.slice Az86 (cvL l1_2).length cz86) := (blk_cell HX99.out 2).trans rfl; have hl552 : w8.heap.size < w24.heap.size := blk_lt HX120.out; have hx553 : w24.cell? ⟨w8.heap.size, 0, none⟩ = some (.int .i64 a3_0) := (blk_cell HX120.out 0).trans rfl; have hx554 : w24.cell? ⟨w8.heap.size, 1, none⟩ = some (.int .i64 a3_1) := (blk_cell HX120.out 1).trans rfl; have hx555 : w24.cell? ⟨w8.heap.size, 2, none⟩ = some (.slice Az103 (cvL l3_2).length cz103) := (blk_cell HX120.out 2).trans rfl; have hl556 : w9.heap.size < w24.heap.size := blk_lt HX145.out; have hx557 : w24.cell? ⟨w9.heap.size, 0, none⟩ = some (.int .i64 r51) := (blk_cell HX145.out 0).trans rfl; have hx558 : w24.cell? ⟨w9.heap.size, 1, none⟩ = some (.int .i64 r52) := (blk_cell HX145.out 1).trans rfl; have hx559 : w24.cell? ⟨w9.heap.size, 2, none⟩ = some (.slice Az124 r53.length cz124) := (blk_cell HX145.out 2).trans rfl; have hl560 : gC503 < w24.heap.size := blk_lt HX502.out; have hx561 : w24.cell? ⟨gC503, 0, none⟩ = some (.int .i64 r51) := (blk_cell HX502.out 0).trans rfl; have hx562 : w24.cell? ⟨gC503, 1, none⟩ = some (.int .i64 r52) := (blk_cell HX502.out 1).trans rfl; have hx563 : w24.cell? ⟨gC503, 2, none⟩ = some (.slice Az477 r53.length cz477) := (blk_cell HX502.out 2).trans rfl) | ((with_reducible refine gate_callee (f := 24) rfl ?_); refine goesL_ (some 123) rfl rfl Try.func24 (by kernel_rfl) rfl #[.agg #[.int .i64 r51, .int .i64 r52, .slice Az124 r53.length cz124], .int .i64 1] rfl (by (try simp only [List.map_toArray, List.map_cons, List.map_nil]); first | done | rfl | (simp only [List.length_drop, List.length_take]; rfl)) ?_; (with_reducible refine (calls_as ?eq_ (laws_heldGate.calls k r51 r52 Az124 cz124 ys364 1 m363 _ ?side1 ?side2 A564.out)).mono ?_); (case eq_ => rw [show ys364.length = r53.length from (Kd.G_reads' HO123.out).1.symm]); (case side1 => exact (Kd.G_reads' (n := r53.length) (A := Az124) (c := cz124) (by (with_reducible repeat (first | apply Kd.G_alloc | apply Kd.G_drewN | apply Kd.G_drew)); exact HO123.out)).2.2); (case side2 => exact Nat.le_trans (Nat.le_of_eq (Kd.G_reads' HO123.out).1.symm) (Kd.G_reads' HO123.out).2.1); rintro e w25 ⟨rfl, hb⟩; refine ⟨_, rfl, ?_⟩; have n1_ := Aside0.mk (Kd.G_below (by (with_reducible repeat (first | apply Kd.G_alloc | apply Kd.G_drewN | apply Kd.G_drew)); exact HO57.out) hb); have n2_ := Aside0.mk (Kd.G_below (by (with_reducible repeat (first | apply Kd.G_alloc | apply Kd.G_drewN | apply Kd.G_drew)); exact HO85.out) hb); have n3_ := Aside0.mk (Kd.G_below (by (with_reducible repeat (first | apply Kd.G_alloc | apply Kd.G_drewN | apply Kd.G_drew)); exact HO102.out) hb); have n4_ := Aside0.mk (Kd.G_below (by (with_reducible repeat (first | apply Kd.G_alloc | apply Kd.G_drewN | apply Kd.G_drew)); exact HO123.out) hb); have n5_ := Aside0.mk (Kd.G_below (by (with_reducible repeat (first | apply Kd.G_alloc | apply Kd.G_drewN | apply Kd.G_drew)); exact HO476.out) hb); have n6_ := Aside0.mk (blk_below (g := w.heap.size) (o := .cells #[.int .i64 a1_0, .int .i64 a1_1, .slice A1_2 l1_2.length c1_2] 24 (0, 0)) (by (with_reducible repeat (first | refine blk_drewN ?_ _ | refine blk_drew ?_ | refine blk_alloc ?_ _)); exact HX1.out) hb); have n7_ := Aside0.mk (blk_below (g := w.heap.size + 1) (o := .cells #[.int .i64 a3_0, .int .i64 a3_1, .slice A3_2 l3_2.length c3_2] 24 (0, 0)) (by (with_reducible repeat (first | refine blk_drewN ?_ _ | refine blk_drew ?_ | refine blk_alloc ?_ _)); exact HX2.out) hb); have n8_ := Aside0.mk (blk_below (g := gC68) (o := .cells #[.int .i64 r51, .int .i64 r52, .slice Az58 r53.length cz58] 29 (0, 0)) (by (with_reducible repeat (first | refine blk_drewN ?_ _ | refine blk_drew ?_ | refine blk_alloc ?_ _)); exact HX67.out) hb); have n9_ := Aside0.mk (blk_below (g := w7.heap.size) (o := .cells #[.int .i64 a1_0, .int .i64 a1_1, .slice Az86 (cvL l1_2).length cz86] 29 (0, 0)) (by (with_reducible repeat (first | refine blk_drewN ?_ _ | refine blk_drew ?_ | refine blk_alloc ?_ _)); exact HX99.out) hb); have n10_ := Aside0.mk (blk_below (g := w8.heap.size) (o := .cells #[.int .i64 a3_0, .int .i64 a3_1, .slice Az103 (cvL l3_2).length cz103] 29 (0, 0)) (by (with_reducible repeat (first | refine blk_drewN ?_ _ | refine blk_drew ?_ | refine blk_alloc ?_ _)); exact HX120.out) hb); have n11_ := Aside0.mk (blk_below (g := w9.heap.size) (o := .cells #[.int .i64 r51, .int .i64 r52, .slice Az124 r53.length cz124] 29 (0, 0)) (by (with_reducible repeat (first | refine blk_drewN ?_ _ | refine blk_drew ?_ | refine blk_alloc ?_ _)); exact HX145.out) hb); have n12_ := Aside0.mk (blk_below (g := gC503) (o := .cells #[.int .i64 r51, .int .i64 r52, .slice Az477 r53.length cz477] 29 (0, 0)) (by (with_reducible repeat (first | refine blk_drewN ?_ _ | refine blk_drew ?_ | refine blk_alloc ?_ _)); exact HX502.out) hb); have n13_ := Aside0.mk (below_step (by repeat (first | (with_reducible first | exact HB.out | apply below_alloc | apply pw_below_drewN | apply below_drew1) | exact HB.out)) hb); have C565 : Aside0 (w24.heap.size ≤ w25.heap.size) := ⟨by have h_ := hb.size; (try simp at h_); omega⟩; have CCn_ := Aside0.mk (And.intro CC.out C565.out); clear CC; have CC := CCn_; clear CCn_; clear HO57; clear HO85; clear HO102; clear HO123; clear HO476; clear HX1; clear HX2; clear HX67; clear HX99; clear HX120; clear HX145; clear HX502; clear HB; clear hl536; clear hx537; clear hx538; clear hx539; clear hl540; clear hx541; clear hx542; clear hx543; clear hl544; clear hx545; clear hx546; clear hx547; clear hl548; clear hx549; clear hx550; clear hx551; clear hl552; clear hx553; clear hx554; clear hx555; clear hl556; clear hx557; clear hx558; clear hx559; clear hl560; clear hx561; clear hx562; clear hx563; have HO57 := n1_; clear n1_; have HO85 := n2_; clear n2_; have HO102 := n3_; clear n3_; have HO123 := n4_; clear n4_; have HO476 := n5_; clear n5_; have HX1 := n6_; clear n6_; have HX2 := n7_; clear n7_; have HX67 := n8_; clear n8_; have HX99 := n9_; clear n9_; have HX120 := n10_; clear n10_; have HX145 := n11_; clear n11_; have HX502 := n12_; clear n12_; have HB := n13_; clear n13_; (try clear hb); have hl566 : w.heap.size < w25.heap.size := blk_lt HX1.out; have hx567 : w25.cell? ⟨w.heap.size, 0, none⟩ = some (.int .i64 a1_0) := (blk_cell HX1.out 0).trans rfl; have hx568 : w25.cell? ⟨w.heap.size, 1, none⟩ = some (.int .i64 a1_1) := (blk_cell HX1.out 1).trans rfl; have hx569 : w25.cell? ⟨w.heap.size, 2, none⟩ = some (.slice A1_2 l1_2.length c1_2) := (blk_cell HX1.out 2).trans rfl; have hl570 : w.heap.size + 1 < w25.heap.size := blk_lt HX2.out; have hx571 : w25.cell? ⟨w.heap.size + 1, 0, none⟩ = some (.int .i64 a3_0) := (blk_cell HX2.out 0).trans rfl; have hx572 : w25.cell? ⟨w.heap.size + 1, 1, none⟩ = some (.int .i64 a3_1) := (blk_cell HX2.out 1).trans rfl; have hx573 : w25.cell? ⟨w.heap.size + 1, 2, none⟩ = some (.slice A3_2 l3_2.length c3_2) := (blk_cell HX2.out 2).trans rfl; have hl574 : gC68 < w25.heap.size := blk_lt HX67.out; have hx575 : w25.cell? ⟨gC68, 0, none⟩ = some (.int .i64 r51) := (blk_cell HX67.out 0).trans rfl; have hx576 : w25.cell? ⟨gC68, 1, none⟩ = some (.int .i64 r52) := (blk_cell HX67.out 1).trans rfl; have hx577 : w25.cell? ⟨gC68, 2, none⟩ = some (.slice Az58 r53.length cz58) := (blk_cell HX67.out 2).trans rfl; have hl578 : w7.heap.size < w25.heap.size := blk_lt HX99.out; have hx579 : w25.cell? ⟨w7.heap.size, 0, none⟩ = some (.int .i64 a1_0) := (blk_cell HX99.out 0).trans rfl; have hx580 : w25.cell? ⟨w7.heap.size, 1, none⟩ = some (.int .i64 a1_1) := (blk_cell HX99.out 1).trans rfl; have hx581 : w25.cell? ⟨w7.heap.size, 2, none⟩ = some (.slice Az86 (cvL l1_2).length cz86) := (blk_cell HX99.out 2).trans rfl; have hl582 : w8.heap.size < w25.heap.size := blk_lt HX120.out; have hx583 : w25.cell? ⟨w8.heap.size, 0, none⟩ = some (.int .i64 a3_0) := (blk_cell HX120.out 0).trans rfl; have hx584 : w25.cell? ⟨w8.heap.size, 1, none⟩ = some (.int .i64 a3_1) := (blk_cell HX120.out 1).trans rfl; have hx585 : w25.cell? ⟨w8.heap.size, 2, none⟩ = some (.slice Az103 (cvL l3_2).length cz103) := (blk_cell HX120.out 2).trans rfl; have hl586 : w9.heap.size < w25.heap.size := blk_lt HX145.out; have hx587 : w25.cell? ⟨w9.heap.size, 0, none⟩ = some (.int .i64 r51) := (blk_cell HX145.out 0).trans rfl; have hx588 : w25.cell? ⟨w9.heap.size, 1, none⟩ = some (.int .i64 r52) := (blk_cell HX145.out 1).trans rfl; have hx589 : w25.cell? ⟨w9.heap.size, 2, none⟩ = some (.slice Az124 r53.length cz124) := (blk_cell HX145.out 2).trans rfl; have hl590 : gC503 < w25.heap.size := blk_lt HX502.out; have hx591 : w25.cell? ⟨gC503, 0, none⟩ = some (.int .i64 r51) := (blk_cell HX502.out 0).trans rfl; have hx592 : w25.cell? ⟨gC503, 1, none⟩ = some (.int .i64 r52) := (blk_cell HX502.out 1).trans rfl; have hx593 : w25.cell? ⟨gC503, 2, none⟩ = some (.slice Az477 r53.length cz477) := (blk_cell HX502.out 2).trans rfl))
  go_ret
  exact ⟨rfl, by repeat (first | (with_reducible first | exact HB.out | apply below_alloc | apply pw_below_drewN | apply below_drew1) | exact HB.out)⟩

end Go.Proofs.Ytjnobnmjhpmpfaa.P

namespace Go.Proofs.Ytjnobnmjhpmpfaa.P
open Go.RowKit Go.Proofs.YtjnobnmjhpmpfaaW.PrintWords Go.Proofs.YtjnobnmjhpmpfaaW.PrintLast Go.Proofs.YtjnobnmjhpmpfaaW.PrintMore
attribute [local go_sem] max2_int min2_int max_two min_two max_three min_three max_four min_four
set_option linter.unusedVariables false
set_option linter.unusedSimpArgs false

section
variable {H : Type} {enc : TypeId × Value → H} {P : Program} {w : World} {base : Nat} {held : Bool} {α : Type}
/-- Whatever reads as a datum of type t (at this depth) is a value of kind d. -/
def OpensAt (enc : TypeId × Value → H) (P : Program) (w : World) (base : Nat) (held : Bool) (n : Nat) (t : TypeId) (d : Kd α) (wf : α → Prop) : Prop :=
  ∀ cs x, DataW.trod enc P w base (fun _ => true) held n t cs = some x → ∃ a, d.K w a cs ∧ wf a
theorem opens_int (n : Nat) {t : TypeId} {k : IntKind} (ht : P.underlying t = some (.int k)) : OpensAt enc P w base held n t (Kd.int k) (fun a => (Lit.int k a).wf = true) := fun cs x h => by
  obtain ⟨a, rfl, _, hw⟩ := DataW.trod_int ht h
  exact ⟨a, rfl, hw⟩
theorem list_upto {Q : Nat → α → Prop} : ∀ n, (∀ i, i < n → ∃ y, Q i y) → ∃ xs : List α, xs.length = n ∧ ∀ (i : Nat) (y : α), xs[i]? = some y → Q i y
  | 0, _ => ⟨[], rfl, fun i y h => by simp at h⟩
  | n + 1, h => by
    obtain ⟨xs, hl, hx⟩ := list_upto n (fun i hi => h i (by omega))
    obtain ⟨y, hy⟩ := h n (by omega)
    refine ⟨xs ++ [y], by simp [hl], fun i z hz => ?_⟩
    by_cases e : i < xs.length
    · rw [List.getElem?_append_left e] at hz
      exact hx i z hz
    · rw [List.getElem?_append_right (by omega)] at hz
      have : i - xs.length = 0 := by
        have := (List.getElem?_eq_some_iff.1 hz).1
        simp at this
        omega
      rw [this] at hz
      obtain rfl : y = z := by simpa using hz
      obtain rfl : i = n := by omega
      exact hy
theorem opens_slice (n : Nat) {t e : TypeId} {d : Kd α} {wf : α → Prop} (ht : P.underlying t = some (.slice e)) (hc : P.cellsOf e = d.sz) (he : OpensAt enc P w base held n e d wf) :
    OpensAt enc P w base held (n + 1) t (Kd.slice e d) (fun xs => xs.length ≤ 9223372036854775807 ∧ ∀ x ∈ xs, wf x) := fun cs x h => by
  rcases DataW.trod_slice ht h with ⟨rfl, _⟩ | ⟨a, len, cap, elems, rest, m, hn, rfl, _, _, hl, hm, hlen, hel, _, _⟩
  · exact ⟨[], ⟨none, 0, rfl, Nat.le_refl _, ⟨rfl, by simp, fun h => absurd h (by simp)⟩⟩, by simp⟩
  · obtain rfl : n = m := by omega
    obtain ⟨xs, hxl, hx⟩ := list_upto (Q := fun i y => (∃ c : List Value, c.length = d.sz ∧ d.K w y c ∧ ∀ j u, c[j]? = some u → w.cell? (a.add (i * d.sz + j)) = some u) ∧ wf y) len (fun i hi => by
      have h1 := hel i hi
      rw [List.getElem?_eq_getElem (by omega)] at h1
      obtain ⟨c, hc1, hc2⟩ := Option.bind_eq_some_iff.1 h1
      obtain ⟨y, hy, hw⟩ := he c _ hc2
      obtain ⟨_, hcl, hcc⟩ := World.cells?_some hc1
      refine ⟨y, ⟨c, by rw [hcl, hc], hy, fun j u hu => ?_⟩, hw⟩
      have hj : j < P.cellsOf e := by rw [← hcl]; exact (List.getElem?_eq_some_iff.1 hu).1
      have h2 := hcc j hj
      rw [hu, hc] at h2
      rw [← h2, Addr.add_add])
    subst hxl
    unfold maxLen at hm
    refine ⟨xs, ⟨some a, cap, rfl, hl, ⟨rfl, by omega, fun _ => ⟨a, rfl, fun j p hj => (hx j p hj).1⟩⟩⟩, by omega, fun y hy => ?_⟩
    obtain ⟨i, hi⟩ := List.mem_iff_getElem?.1 hy
    exact (hx i y hi).2
/-- At any depth. -/
theorem OpensAt.any {t : TypeId} {d : Kd α} {wf : α → Prop} (h : ∀ n, OpensAt enc P w base held n t d wf) {v : Value} {y : DataW H} {p : List MemPlace} (hv : DataW.Trod enc P w base (fun _ => true) held t v y p) : ∃ a, d.K w a v.cells.toList ∧ wf a := by
  obtain ⟨fuel, hf⟩ := hv
  exact h fuel _ _ hf
end

end Go.Proofs.Ytjnobnmjhpmpfaa.P

namespace Go.Proofs.Ytjnobnmjhpmpfaa.P
open Go.RowKit Go.Proofs.YtjnobnmjhpmpfaaW.PrintWords Go.Proofs.YtjnobnmjhpmpfaaW.PrintLast Go.Proofs.YtjnobnmjhpmpfaaW.PrintMore
attribute [local go_sem] max2_int min2_int max_two min_two max_three min_three max_four min_four
set_option linter.unusedVariables false
set_option linter.unusedSimpArgs false

inductive wfS24 : S24 → Prop
  | mk (x : S24) : ((Lit.int .i64 x.f0).wf = true) → ((Lit.int .i64 x.f1).wf = true) → (x.f2.length ≤ 9223372036854775807) → (∀ y_ ∈ x.f2, wfS24 y_) → wfS24 x
theorem list_of_24 {α : Type} {l : List α} (h : l.length = 3) : ∃ c0 c1 c2, l = [c0, c1, c2] := by
  match l, h with
  | [c0, c1, c2], _ => exact ⟨c0, c1, c2, rfl⟩
theorem opensS24 {H : Type} {enc : TypeId × Value → H} {w : World} {base : Nat} {held : Bool} : ∀ n, OpensAt enc Try.prog w base held n 24 k24 wfS24
  | 0 => fun cs x h => by simp [DataW.trod] at h
  | 1 => fun cs x h => by
    obtain ⟨xs, m, hm, _, hl, hlen, hf⟩ := DataW.trod_struct Try.underlying24 h
    obtain rfl : 0 = m := by omega
    rw [show Try.prog.cellsOf 24 = 3 from by kernel_rfl] at hl
    obtain ⟨c0, c1, c2, rfl⟩ := list_of_24 hl
    have h0 : DataW.trod enc Try.prog w base (fun _ => true) held (0) 2 [c0] = xs[0]? := by
        have q := hf 0 _ rfl
        simpa [show Try.prog.cellsOf 2 = 1 from by kernel_rfl] using q
    rw [List.getElem?_eq_getElem (by rw [hlen]; decide)] at h0
    obtain ⟨a0, e0, w0⟩ := (fun n => opens_int n Try.underlying2) (0) _ _ h0
    cases e0
    have h1 : DataW.trod enc Try.prog w base (fun _ => true) held (0) 2 [c1] = xs[1]? := by
        have q := hf 1 _ rfl
        simpa [show Try.prog.cellsOf 2 = 1 from by kernel_rfl] using q
    rw [List.getElem?_eq_getElem (by rw [hlen]; decide)] at h1
    obtain ⟨a1, e1, w1⟩ := (fun n => opens_int n Try.underlying2) (0) _ _ h1
    cases e1
    have h2 : DataW.trod enc Try.prog w base (fun _ => true) held (0) 22 [c2] = xs[2]? := by
        have q := hf 2 _ rfl
        simpa [show Try.prog.cellsOf 22 = 1 from by kernel_rfl] using q
    rw [List.getElem?_eq_getElem (by rw [hlen]; decide)] at h2
    exact absurd h2 (by simp [DataW.trod])
  | n + 2 => fun cs x h => by
    obtain ⟨xs, m, hm, _, hl, hlen, hf⟩ := DataW.trod_struct Try.underlying24 h
    obtain rfl : n + 1 = m := by omega
    rw [show Try.prog.cellsOf 24 = 3 from by kernel_rfl] at hl
    obtain ⟨c0, c1, c2, rfl⟩ := list_of_24 hl
    have h0 : DataW.trod enc Try.prog w base (fun _ => true) held (n + 1) 2 [c0] = xs[0]? := by
        have q := hf 0 _ rfl
        simpa [show Try.prog.cellsOf 2 = 1 from by kernel_rfl] using q
    rw [List.getElem?_eq_getElem (by rw [hlen]; decide)] at h0
    obtain ⟨a0, e0, w0⟩ := (fun n => opens_int n Try.underlying2) (n + 1) _ _ h0
    cases e0
    have h1 : DataW.trod enc Try.prog w base (fun _ => true) held (n + 1) 2 [c1] = xs[1]? := by
        have q := hf 1 _ rfl
        simpa [show Try.prog.cellsOf 2 = 1 from by kernel_rfl] using q
    rw [List.getElem?_eq_getElem (by rw [hlen]; decide)] at h1
    obtain ⟨a1, e1, w1⟩ := (fun n => opens_int n Try.underlying2) (n + 1) _ _ h1
    cases e1
    have h2 : DataW.trod enc Try.prog w base (fun _ => true) held (n + 1) 22 [c2] = xs[2]? := by
        have q := hf 2 _ rfl
        simpa [show Try.prog.cellsOf 22 = 1 from by kernel_rfl] using q
    rw [List.getElem?_eq_getElem (by rw [hlen]; decide)] at h2
    obtain ⟨a2, ⟨A2, n2, e2, l2, g2⟩, w2⟩ := (opens_slice n Try.underlying22 (by kernel_rfl) (opensS24 n)) _ _ h2
    cases e2
    exact ⟨⟨a0, a1, a2⟩, k24_mk w ⟨a0, a1, a2⟩ l2 g2, .mk _ w0 w1 w2.1 w2.2⟩

end Go.Proofs.Ytjnobnmjhpmpfaa.P

namespace Go.Proofs.Ytjnobnmjhpmpfaa.P
open Go.RowKit Go.Proofs.YtjnobnmjhpmpfaaW.PrintWords Go.Proofs.YtjnobnmjhpmpfaaW.PrintLast Go.Proofs.YtjnobnmjhpmpfaaW.PrintMore
attribute [local go_sem] max2_int min2_int max_two min_two max_three min_three max_four min_four
set_option linter.unusedVariables false
set_option linter.unusedSimpArgs false

def laws_FnExactPutGate.Way0 (a0 : Int) (x1 : S24) (a2 : Int) (x3 : S24) : Prop := ∃ k : Nat, ∃ (s3 : Int), (laws_szGate.f k x1.f0 x1.f1 x1.f2 1048576 = some s3) ∧ (decide (s3 < 0) = true)
def laws_FnExactPutGate.Way1 (a0 : Int) (x1 : S24) (a2 : Int) (x3 : S24) : Prop := ∃ k : Nat, ∃ (s3 : Int) (s15 : Int), (laws_szGate.f k x1.f0 x1.f1 x1.f2 1048576 = some s3) ∧ (decide (s3 < 0) = false) ∧ (laws_szGate.f k x3.f0 x3.f1 x3.f2 s3 = some s15) ∧ (decide (s15 < 0) = true)
def laws_FnExactPutGate.Way2 (a0 : Int) (x1 : S24) (a2 : Int) (x3 : S24) : Prop := ∃ k : Nat, ∃ (s3 : Int) (s15 : Int) (r51 : Int) (r52 : Int) (r53 : List (S29)) (r54 : Int) (m280 : Int) (ys281 : List (S29)) (m308 : Int) (ys309 : List (S29)) (m363 : Int) (ys364 : List (S29)), (laws_szGate.f k x1.f0 x1.f1 x1.f2 1048576 = some s3) ∧ (decide (s3 < 0) = false) ∧ (laws_szGate.f k x3.f0 x3.f1 x3.f2 s3 = some s15) ∧ (decide (s15 < 0) = false) ∧ (laws_toGate.f k x1.f0 x1.f1 x1.f2 = some (x1.f0, x1.f1, (cvL x1.f2))) ∧ (laws_toGate.f k x3.f0 x3.f1 x3.f2 = some (x3.f0, x3.f1, (cvL x3.f2))) ∧ (spec_PutGate.f k a0 x1.f0 x1.f1 (cvL x1.f2) a2 x3.f0 x3.f1 (cvL x3.f2) = some (r51, r52, r53, r54)) ∧ (laws_toGate.f k x1.f0 x1.f1 x1.f2 = some (x1.f0, x1.f1, (cvL x1.f2))) ∧ (laws_toGate.f k x3.f0 x3.f1 x3.f2 = some (x3.f0, x3.f1, (cvL x3.f2))) ∧ (impl_PutGate.f k a0 x1.f0 x1.f1 (cvL x1.f2) a2 x3.f0 x3.f1 (cvL x3.f2) = some (r51, r52, r53, r54)) ∧ (laws_eqGate.f k r51 r52 r53 r51 r52 r53 = some true) ∧ (laws_toGate.f k x1.f0 x1.f1 x1.f2 = some (x1.f0, x1.f1, (cvL x1.f2))) ∧ (laws_eqGate.f k x1.f0 x1.f1 (cvL x1.f2) x1.f0 x1.f1 (cvL x1.f2) = some true) ∧ (laws_toGate.f k x3.f0 x3.f1 x3.f2 = some (x3.f0, x3.f1, (cvL x3.f2))) ∧ (laws_eqGate.f k x3.f0 x3.f1 (cvL x3.f2) x3.f0 x3.f1 (cvL x3.f2) = some true) ∧ (laws_markGate.f k x1.f0 x1.f1 (cvL x1.f2) 1 = some (m280, ys281)) ∧ (laws_markGate.f k x3.f0 x3.f1 (cvL x3.f2) m280 = some (m308, ys309)) ∧ (decide (m308 < 0) = false) ∧ (laws_eqGate.f k r51 r52 r53 r51 r52 r53 = some true) ∧ (laws_markGate.f k r51 r52 r53 1 = some (m363, ys364)) ∧ (laws_heldGate.f k r51 r52 ys364 1 = some m363) ∧ (decide (m363 < 0) = false) ∧ (laws_toGate.f k x1.f0 x1.f1 x1.f2 = some (x1.f0, x1.f1, (cvL x1.f2))) ∧ (laws_toGate.f k x3.f0 x3.f1 x3.f2 = some (x3.f0, x3.f1, (cvL x3.f2))) ∧ (impl_PutGate.f k a0 x1.f0 x1.f1 (cvL x1.f2) a2 x3.f0 x3.f1 (cvL x3.f2) = some (r51, r52, r53, r54)) ∧ (laws_eqGate.f k r51 r52 r53 r51 r52 r53 = some true) ∧ (laws_heldGate.f k r51 r52 ys364 1 = some m363) ∧ (decide (m363 < 0) = false)
def laws_FnExactPutGate.Pure : Prop := ∀ (a0 : Int) (x1 : S24) (a2 : Int) (x3 : S24), ((Lit.int .i64 a0).wf = true) → wfS24 x1 → ((Lit.int .i64 a2).wf = true) → wfS24 x3 → laws_FnExactPutGate.Way0 a0 x1 a2 x3 ∨ laws_FnExactPutGate.Way1 a0 x1 a2 x3 ∨ laws_FnExactPutGate.Way2 a0 x1 a2 x3
theorem laws_FnExactPutGate.walk (P : laws_FnExactPutGate.Pure) (a0 : Int) (x1 : S24) (a2 : Int) (x3 : S24) (A1_2 : Option Addr) (c1_2 : Nat) (A3_2 : Option Addr) (c3_2 : Nat) (w : World) (hr1_2 : Kd.C k24 w A1_2 x1.f2.length x1.f2) (hc1_2 : x1.f2.length ≤ c1_2) (hr3_2 : Kd.C k24 w A3_2 x3.f2.length x3.f2) (hc3_2 : x3.f2.length ≤ c3_2) (wf0 : ((Lit.int .i64 a0).wf = true)) (wf1 : wfS24 x1) (wf2 : ((Lit.int .i64 a2).wf = true)) (wf3 : wfS24 x3) :
    Calls Try.prog 10 #[.int .i64 a0, .agg #[.int .i64 x1.f0, .int .i64 x1.f1, .slice A1_2 x1.f2.length c1_2], .int .i64 a2, .agg #[.int .i64 x3.f0, .int .i64 x3.f1, .slice A3_2 x3.f2.length c3_2]] w fun e w' => e = .returned (.bool true) ∧ Below w.heap.size w w' := by
  rcases P a0 x1 a2 x3 wf0 wf1 wf2 wf3 with h | h | h
  · obtain ⟨k, s3, A4, t14⟩ := h
    exact laws_FnExactPutGate.way0 k a0 x1.f0 x1.f1 _ _ x1.f2 a2 x3.f0 x3.f1 _ _ x3.f2 s3 w hr1_2 hc1_2 hr3_2 hc3_2 A4 t14
  · obtain ⟨k, s3, s15, A4, t14, A16, t26⟩ := h
    exact laws_FnExactPutGate.way1 k a0 x1.f0 x1.f1 _ _ x1.f2 a2 x3.f0 x3.f1 _ _ x3.f2 s3 s15 w hr1_2 hc1_2 hr3_2 hc3_2 A4 t14 A16 t26
  · obtain ⟨k, s3, s15, r51, r52, r53, r54, m280, ys281, m308, ys309, m363, ys364, A4, t14, A16, t26, A27, A39, A55, A83, A100, A121, A146, A172, A200, A226, A254, A282, A310, t336, A337, A365, A391, t417, A418, A446, A474, A534, A564, t594⟩ := h
    exact laws_FnExactPutGate.way2 k a0 x1.f0 x1.f1 _ _ x1.f2 a2 x3.f0 x3.f1 _ _ x3.f2 s3 s15 r51 r52 r53 r54 m280 ys281 m308 ys309 m363 ys364 w hr1_2 hc1_2 hr3_2 hc3_2 A4 t14 A16 t26 A27 A39 A55 A83 A100 A121 A146 A172 A200 A226 A254 A282 A310 t336 A337 A365 A391 t417 A418 A446 A474 A534 A564 t594

end Go.Proofs.Ytjnobnmjhpmpfaa.P

namespace Go.Proofs.Ytjnobnmjhpmpfaa.P
open Go.RowKit Go.Proofs.YtjnobnmjhpmpfaaW.PrintWords Go.Proofs.YtjnobnmjhpmpfaaW.PrintLast Go.Proofs.YtjnobnmjhpmpfaaW.PrintMore
attribute [local go_sem] max2_int min2_int max_two min_two max_three min_three max_four min_four
set_option linter.unusedVariables false
set_option linter.unusedSimpArgs false

mutual
/-- How many nodes lie below a gate. -/
def nT : S24 → Nat
  | ⟨_, _, l⟩ => nL l
def nL : List S24 → Nat
  | [] => 0
  | x :: l => 1 + nT x + nL l
end
mutual
def mT : S29 → Nat
  | ⟨_, _, l⟩ => mL l
def mL : List S29 → Nat
  | [] => 0
  | x :: l => 1 + mT x + mL l
end
def sT : List S24 → Nat
  | [] => 0
  | x :: l => nT x + sT l
theorem nT_kids (x : S24) : nT x = nL x.f2 := by cases x; simp [nT]
theorem mT_kids (x : S29) : mT x = mL x.f2 := by cases x; simp [mT]
theorem nL_sum : ∀ l : List S24, nL l = l.length + sT l
  | [] => by simp [nL, sT]
  | x :: l => by simp only [nL, sT, List.length_cons, nL_sum l]; omega
theorem nL_mem {l : List S24} {x : S24} (h : x ∈ l) : nT x < nL l := by
  induction l with
  | nil => simp at h
  | cons y l ih =>
    simp only [nL]
    rcases List.mem_cons.mp h with rfl | h
    · omega
    · have := ih h; omega
theorem mL_mem {l : List S29} {x : S29} (h : x ∈ l) : mT x < mL l := by
  induction l with
  | nil => simp at h
  | cons y l ih =>
    simp only [mL]
    rcases List.mem_cons.mp h with rfl | h
    · omega
    · have := ih h; omega
theorem mL_len : ∀ l : List S29, l.length ≤ mL l
  | [] => by simp [mL]
  | x :: l => by have := mL_len l; simp only [mL, List.length_cons]; omega
theorem cvL_map : ∀ l : List S24, cvL l = l.map cvT
  | [] => rfl
  | x :: l => by simp only [cvL, List.map_cons, cvL_map l]
mutual
theorem mT_cv : ∀ x : S24, mT (cvT x) = nT x
  | ⟨a, b, l⟩ => by simp only [cvT, mT, nT, mL_cv l]
theorem mL_cv : ∀ l : List S24, mL (cvL l) = nL l
  | [] => rfl
  | x :: l => by simp only [cvL, mL, nL, mT_cv x, mL_cv l]
end
theorem cvT_parts (x : S24) : cvT x = ⟨x.f0, x.f1, cvL x.f2⟩ := by cases x; simp only [cvT]
theorem rdT_law (xs : List S24) (i : Nat) (h : i < xs.length) : rd_T24 xs (i : Int) = xs[i] := by simp [rd_T24, h]
theorem rdT_impl (xs : List S29) (i : Nat) (h : i < xs.length) : rd_T29 xs (i : Int) = xs[i] := by simp [rd_T29, h]
/-- Lists that are no longer than a list may be. -/
inductive wfG : S24 → Prop
  | mk (x : S24) : x.f2.length ≤ 9223372036854775807 → (∀ y ∈ x.f2, wfG y) → wfG x
def wfL (l : List S24) : Prop := l.length ≤ 9223372036854775807 ∧ ∀ y ∈ l, wfG y
theorem wfL_kids {x : S24} (h : wfG x) : wfL x.f2 := by
  cases h with
  | mk _ h3 h4 => exact ⟨h3, h4⟩
def szV (left : Int) (m : Nat) : Int := if (m : Int) ≤ left then left - m else -1
theorem szGateS_ev : ∀ (n : Nat) (l : List S24), nL l ≤ n → wfL l → ∀ left : Int, 0 ≤ left → left ≤ 1048576 → Ev (fun k => laws_szGateS.f k l left) (szV left (nL l)) := by
  intro n
  induction n with
  | zero =>
    intro l hn hw left h0 h1
    have hs := nL_sum l
    refine Ev.step (f := fun k => laws_szGateS.l0 k l left 0) (fun k => ?_) (Ev.step (f := fun _ => some left) (fun k => ?_) ?_)
    · simp only [laws_szGateS.f]
      rw [wr (by omega) (by omega), if_neg (by omega), show left - (l.length : Int) = left by omega]
    · simp only [laws_szGateS.l0]
      rw [if_neg (by omega)]
    · rw [show szV left (nL l) = left from by unfold szV; rw [if_pos (by omega)]; omega]
      exact Ev.now _
  | succ n ih =>
    intro l hn hw left h0 h1
    have hs := nL_sum l
    have hlen := hw.1
    by_cases hc : left - (l.length : Int) < 0
    · refine Ev.step (f := fun _ => some (-1)) (fun k => ?_) ?_
      · simp only [laws_szGateS.f]
        rw [wr (by omega) (by omega), if_pos hc]
      · rw [show szV left (nL l) = -1 from by unfold szV; rw [if_neg (by omega)]]
        exact Ev.now _
    · have key : ∀ d i : Nat, i + d = l.length → ∀ b : Int, 0 ≤ b → b ≤ 1048576 → Ev (fun k => laws_szGateS.l0 k l b (i : Int)) (szV b (sT (l.drop i))) := by
        intro d
        induction d with
        | zero =>
          intro i hi b hb0 hb1
          rw [List.drop_eq_nil_of_le (by omega), show szV b (sT []) = b from by unfold szV sT; rw [if_pos (by omega)]; omega]
          refine Ev.step (f := fun _ => some b) (fun k => ?_) (Ev.now _)
          simp only [laws_szGateS.l0]
          rw [if_neg (by omega)]
        | succ d ihd =>
          intro i hi b hb0 hb1
          have hlt : i < l.length := by omega
          have hmem := List.getElem_mem hlt
          have hx := nL_mem hmem
          have hk := nT_kids l[i]
          have e1 : Ev (fun k => laws_szGate.f k l[i].f0 l[i].f1 l[i].f2 b) (szV b (nT l[i])) := by
            refine Ev.step (f := fun k => (laws_szGateS.f k l[i].f2 b).bind fun t => if t < 0 then some (-1) else some t) (fun k => by simp only [laws_szGate.f]) ?_
            refine Ev.bind (ih _ (by omega) (wfL_kids (hw.2 _ hmem)) b hb0 hb1) ?_
            rw [← hk]
            unfold szV
            by_cases hq : (nT l[i] : Int) ≤ b
            · rw [if_pos hq, if_neg (by omega)]; exact Ev.now _
            · rw [if_neg hq, if_pos (by omega)]; exact Ev.now _
          rw [List.drop_eq_getElem_cons hlt, show sT (l[i] :: l.drop (i + 1)) = nT l[i] + sT (l.drop (i + 1)) from rfl]
          refine Ev.step (f := fun k => (laws_szGate.f k l[i].f0 l[i].f1 l[i].f2 b).bind fun t => if t < 0 then some (-1) else laws_szGateS.l0 k l t ((i + 1 : Nat) : Int)) (fun k => ?_) (Ev.bind e1 ?_)
          · simp only [laws_szGateS.l0]
            rw [if_pos (by omega), if_pos (by omega), rdT_law l i hlt, wr (x := (i : Int) + 1) (by omega) (by omega)]
            rfl
          · by_cases hq : (nT l[i] : Int) ≤ b
            · have hv : szV b (nT l[i]) = b - nT l[i] := by unfold szV; rw [if_pos hq]
              rw [hv, show szV b (nT l[i] + sT (l.drop (i + 1))) = szV (b - nT l[i]) (sT (l.drop (i + 1))) from by unfold szV; by_cases h : ((sT (l.drop (i + 1)) : Nat) : Int) ≤ b - nT l[i]; rw [if_pos h, if_pos (by omega)]; omega; rw [if_neg h, if_neg (by omega)]]
              simp only [if_neg (show ¬ b - (nT l[i] : Int) < 0 by omega)]
              exact ihd (i + 1) (by omega) _ (by omega) (by omega)
            · have hv : szV b (nT l[i]) = -1 := by unfold szV; rw [if_neg hq]
              rw [hv, show szV b (nT l[i] + sT (l.drop (i + 1))) = -1 from by unfold szV; rw [if_neg (by omega)]]
              simp only [if_pos (show (-1 : Int) < 0 by omega)]
              exact Ev.now _
      have h := key l.length 0 (by omega) (left - (l.length : Int)) (by omega) (by omega)
      rw [List.drop_zero] at h
      refine Ev.step (f := fun k => laws_szGateS.l0 k l (left - (l.length : Int)) 0) (fun k => ?_) ?_
      · simp only [laws_szGateS.f]
        rw [wr (by omega) (by omega), if_neg hc]
      · rw [show szV left (nL l) = szV (left - (l.length : Int)) (sT l) from by unfold szV; rw [hs]; by_cases h : ((sT l : Nat) : Int) ≤ left - (l.length : Int); rw [if_pos h, if_pos (by omega)]; omega; rw [if_neg h, if_neg (by omega)]]
        exact h
theorem szGate_ev (a b : Int) (l : List S24) (hw : wfL l) (left : Int) (h0 : 0 ≤ left) (h1 : left ≤ 1048576) : Ev (fun k => laws_szGate.f k a b l left) (szV left (nL l)) := by
  refine Ev.step (f := fun k => (laws_szGateS.f k l left).bind fun t => if t < 0 then some (-1) else some t) (fun k => by simp only [laws_szGate.f]) ?_
  refine Ev.bind (szGateS_ev _ l (Nat.le_refl _) hw left h0 h1) ?_
  unfold szV
  by_cases hq : (nL l : Int) ≤ left
  · rw [if_pos hq, if_neg (by omega)]; exact Ev.now _
  · rw [if_neg hq, if_pos (by omega)]; exact Ev.now _
theorem toGateS_ev : ∀ (n : Nat) (l : List S24), nL l ≤ n → n ≤ 1048576 → Ev (fun k => laws_toGateS.f k l) (cvL l) := by
  intro n
  induction n with
  | zero =>
    intro l hn hm
    have hs := nL_sum l
    obtain rfl : l = [] := List.eq_nil_of_length_eq_zero (by omega)
    refine Ev.step (f := fun k => laws_toGateS.l0 k [] [] 0) (fun k => by simp [laws_toGateS.f]) (Ev.step (f := fun _ => some []) (fun k => by simp [laws_toGateS.l0]) (Ev.now _))
  | succ n ih =>
    intro l hn hm
    have hs := nL_sum l
    have key : ∀ d i : Nat, i + d = l.length → Ev (fun k => laws_toGateS.l0 k l ((l.take i).map cvT ++ List.replicate d z29) (i : Int)) (cvL l) := by
      intro d
      induction d with
      | zero =>
        intro i hi
        rw [List.take_of_length_le (by omega), List.replicate_zero, List.append_nil, ← cvL_map]
        refine Ev.step (f := fun _ => some (cvL l)) (fun k => ?_) (Ev.now _)
        simp only [laws_toGateS.l0]
        rw [if_neg (by omega)]
      | succ d ihd =>
        intro i hi
        have hlt : i < l.length := by omega
        have hmem := List.getElem_mem hlt
        have hx := nL_mem hmem
        have hk := nT_kids l[i]
        have e1 : Ev (fun k => laws_toGate.f k l[i].f0 l[i].f1 l[i].f2) (l[i].f0, l[i].f1, cvL l[i].f2) :=
          Ev.step (f := fun k => (laws_toGateS.f k l[i].f2).bind fun t => some (l[i].f0, l[i].f1, t)) (fun k => by simp only [laws_toGate.f]) (Ev.bind (ih l[i].f2 (by omega) (by omega)) (Ev.now _))
        refine Ev.step (f := fun k => (laws_toGate.f k l[i].f0 l[i].f1 l[i].f2).bind fun b => laws_toGateS.l0 k l (((l.take i).map cvT ++ List.replicate (d + 1) z29).set i ⟨b.1, b.2.1, b.2.2⟩) ((i + 1 : Nat) : Int)) (fun k => ?_) (Ev.bind e1 ?_)
        · simp only [laws_toGateS.l0]
          rw [if_pos (by omega), if_pos (by omega), rdT_law l i hlt, wr (by omega) (by omega)]
          simp only [if_pos (show (i : Int) < (((l.take i).map cvT ++ List.replicate (d + 1) z29).length : Int) by simp; omega), Int.toNat_natCast]
          rfl
        · have e0 : ((l.take i).map cvT).length = i := by rw [List.length_map, List.length_take]; omega
          have e : (((l.take i).map cvT) ++ List.replicate (d + 1) z29).set i ⟨l[i].f0, l[i].f1, cvL l[i].f2⟩ = (l.take (i + 1)).map cvT ++ List.replicate d z29 := by
            rw [List.set_append_right _ _ (by omega), e0, Nat.sub_self, List.replicate_succ, List.set_cons_zero, List.take_succ_eq_append_getElem hlt, List.map_append, List.append_assoc, ← cvT_parts]
            rfl
          dsimp only
          rw [e]
          exact ihd (i + 1) (by omega)
    have h := key l.length 0 (by omega)
    rw [List.take_zero, List.map_nil, List.nil_append] at h
    refine Ev.step (f := fun k => laws_toGateS.l0 k l (List.replicate l.length z29) 0) (fun k => ?_) h
    simp only [laws_toGateS.f]
    rw [if_pos (by omega), Int.toNat_natCast]
theorem toGate_ev (a b : Int) (l : List S24) (h : nL l ≤ 1048576) : Ev (fun k => laws_toGate.f k a b l) (a, b, cvL l) :=
  Ev.step (f := fun k => (laws_toGateS.f k l).bind fun t => some (a, b, t)) (fun k => by simp only [laws_toGate.f]) (Ev.bind (toGateS_ev _ l (Nat.le_refl _) h) (Ev.now _))
theorem eqGateS_same : ∀ (n : Nat) (l : List S29), mL l ≤ n → n ≤ 1048576 → Ev (fun k => laws_eqGateS.f k l l) true := by
  intro n
  induction n with
  | zero =>
    intro l hn hm
    have hs := mL_len l
    obtain rfl : l = [] := List.eq_nil_of_length_eq_zero (by omega)
    exact Ev.step (f := fun k => laws_eqGateS.l0 k [] [] 0) (fun k => by simp [laws_eqGateS.f]) (Ev.step (f := fun _ => some true) (fun k => by simp [laws_eqGateS.l0]) (Ev.now _))
  | succ n ih =>
    intro l hn hm
    have hs := mL_len l
    have key : ∀ d i : Nat, i + d = l.length → Ev (fun k => laws_eqGateS.l0 k l l (i : Int)) true := by
      intro d
      induction d with
      | zero =>
        intro i hi
        refine Ev.step (f := fun _ => some true) (fun k => ?_) (Ev.now _)
        simp only [laws_eqGateS.l0]
        rw [if_neg (by omega)]
      | succ d ihd =>
        intro i hi
        have hlt : i < l.length := by omega
        have hx := mL_mem (List.getElem_mem hlt)
        have hk := mT_kids l[i]
        have e1 : Ev (fun k => laws_eqGate.f k l[i].f0 l[i].f1 l[i].f2 l[i].f0 l[i].f1 l[i].f2) true :=
          Ev.step (f := fun k => (laws_eqGateS.f k l[i].f2 l[i].f2).bind fun t => if t = true then some true else some false) (fun k => by simp only [laws_eqGate.f, if_true]) (Ev.bind (ih l[i].f2 (by omega) (by omega)) (by simp only [if_true]; exact Ev.now _))
        refine Ev.step (f := fun k => (laws_eqGate.f k l[i].f0 l[i].f1 l[i].f2 l[i].f0 l[i].f1 l[i].f2).bind fun t => if t = true then laws_eqGateS.l0 k l l ((i + 1 : Nat) : Int) else some false) (fun k => ?_) (Ev.bind e1 ?_)
        · simp only [laws_eqGateS.l0]
          rw [if_pos (by omega), if_pos (by omega), if_pos (by omega), rdT_impl l i hlt, wr (by omega) (by omega)]
          rfl
        · exact ihd (i + 1) (by omega)
    exact Ev.step (f := fun k => laws_eqGateS.l0 k l l 0) (fun k => by simp only [laws_eqGateS.f, if_true]) (key l.length 0 (by omega))
theorem eqGate_same (a b : Int) (l : List S29) (h : mL l ≤ 1048576) : Ev (fun k => laws_eqGate.f k a b l a b l) true :=
  Ev.step (f := fun k => (laws_eqGateS.f k l l).bind fun t => if t = true then some true else some false) (fun k => by simp only [laws_eqGate.f, if_true]) (Ev.bind (eqGateS_same _ l (Nat.le_refl _) h) (by simp only [if_true]; exact Ev.now _))

end Go.Proofs.Ytjnobnmjhpmpfaa.P

namespace Go.Proofs.Ytjnobnmjhpmpfaa.P
open Go.RowKit Go.Proofs.YtjnobnmjhpmpfaaW.PrintWords Go.Proofs.YtjnobnmjhpmpfaaW.PrintLast Go.Proofs.YtjnobnmjhpmpfaaW.PrintMore
attribute [local go_sem] max2_int min2_int max_two min_two max_three min_three max_four min_four
set_option linter.unusedVariables false
set_option linter.unusedSimpArgs false

/-! ### laws_eqInt64S: function 27 -/
end Go.Proofs.Ytjnobnmjhpmpfaa.P

namespace Go.Proofs.Ytjnobnmjhpmpfaa.P
open Go.RowKit Go.Proofs.YtjnobnmjhpmpfaaW.PrintWords Go.Proofs.YtjnobnmjhpmpfaaW.PrintLast Go.Proofs.YtjnobnmjhpmpfaaW.PrintMore
attribute [local go_sem] max2_int min2_int max_two min_two max_three min_three max_four min_four
set_option linter.unusedVariables false
set_option linter.unusedSimpArgs false

/-! ### laws_toInt64S: function 31 -/
end Go.Proofs.Ytjnobnmjhpmpfaa.P

namespace Go.Proofs.Ytjnobnmjhpmpfaa.P
open Go.RowKit Go.Proofs.YtjnobnmjhpmpfaaW.PrintWords Go.Proofs.YtjnobnmjhpmpfaaW.PrintLast Go.Proofs.YtjnobnmjhpmpfaaW.PrintMore
attribute [local go_sem] max2_int min2_int max_two min_two max_three min_three max_four min_four
set_option linter.unusedVariables false
set_option linter.unusedSimpArgs false

/-! ### laws_szInt64S: function 91 -/
end Go.Proofs.Ytjnobnmjhpmpfaa.P

namespace Go.Proofs.Ytjnobnmjhpmpfaa.P
open Go.RowKit Go.Proofs.YtjnobnmjhpmpfaaW.PrintWords Go.Proofs.YtjnobnmjhpmpfaaW.PrintLast Go.Proofs.YtjnobnmjhpmpfaaW.PrintMore
attribute [local go_sem] max2_int min2_int max_two min_two max_three min_three max_four min_four
set_option linter.unusedVariables false
set_option linter.unusedSimpArgs false

/-! ### laws_szInt64SS: function 77 -/
end Go.Proofs.Ytjnobnmjhpmpfaa.P

namespace Go.Proofs.Ytjnobnmjhpmpfaa.P
open Go.RowKit Go.Proofs.YtjnobnmjhpmpfaaW.PrintWords Go.Proofs.YtjnobnmjhpmpfaaW.PrintLast Go.Proofs.YtjnobnmjhpmpfaaW.PrintMore
attribute [local go_sem] max2_int min2_int max_two min_two max_three min_three max_four min_four
set_option linter.unusedVariables false
set_option linter.unusedSimpArgs false

/-! ### laws_toInt64SS: function 79 -/
end Go.Proofs.Ytjnobnmjhpmpfaa.P

namespace Go.Proofs.Ytjnobnmjhpmpfaa.P
open Go.RowKit Go.Proofs.YtjnobnmjhpmpfaaW.PrintWords Go.Proofs.YtjnobnmjhpmpfaaW.PrintLast Go.Proofs.YtjnobnmjhpmpfaaW.PrintMore
attribute [local go_sem] max2_int min2_int max_two min_two max_three min_three max_four min_four
set_option linter.unusedVariables false
set_option linter.unusedSimpArgs false

/-! ### laws_eqInt64SS: function 81 -/
end Go.Proofs.Ytjnobnmjhpmpfaa.P

namespace Go.Proofs.Ytjnobnmjhpmpfaa.P
open Go.RowKit Go.Proofs.YtjnobnmjhpmpfaaW.PrintWords Go.Proofs.YtjnobnmjhpmpfaaW.PrintLast Go.Proofs.YtjnobnmjhpmpfaaW.PrintMore
attribute [local go_sem] max2_int min2_int max_two min_two max_three min_three max_four min_four
set_option linter.unusedVariables false
set_option linter.unusedSimpArgs false

/-! ### spec_l00Rises: function 101 -/
end Go.Proofs.Ytjnobnmjhpmpfaa.P

namespace Go.Proofs.Ytjnobnmjhpmpfaa.P
open Go.RowKit Go.Proofs.YtjnobnmjhpmpfaaW.PrintWords Go.Proofs.YtjnobnmjhpmpfaaW.PrintLast Go.Proofs.YtjnobnmjhpmpfaaW.PrintMore
attribute [local go_sem] max2_int min2_int max_two min_two max_three min_three max_four min_four
set_option linter.unusedVariables false
set_option linter.unusedSimpArgs false

/-! ### spec_l01Group: function 92 -/
end Go.Proofs.Ytjnobnmjhpmpfaa.P

namespace Go.Proofs.Ytjnobnmjhpmpfaa.P
open Go.RowKit Go.Proofs.YtjnobnmjhpmpfaaW.PrintWords Go.Proofs.YtjnobnmjhpmpfaaW.PrintLast Go.Proofs.YtjnobnmjhpmpfaaW.PrintMore
attribute [local go_sem] max2_int min2_int max_two min_two max_three min_three max_four min_four
set_option linter.unusedVariables false
set_option linter.unusedSimpArgs false

/-! ### impl_isGroup: function 95 -/
end Go.Proofs.Ytjnobnmjhpmpfaa.P

namespace Go.Proofs.Ytjnobnmjhpmpfaa.P
open Go.RowKit Go.Proofs.YtjnobnmjhpmpfaaW.PrintWords Go.Proofs.YtjnobnmjhpmpfaaW.PrintLast Go.Proofs.YtjnobnmjhpmpfaaW.PrintMore
attribute [local go_sem] max2_int min2_int max_two min_two max_three min_three max_four min_four
set_option linter.unusedVariables false
set_option linter.unusedSimpArgs false

def before (l : List Int) (i : Nat) : Option Int := if i = 0 then none else l[i - 1]?
end Go.Proofs.Ytjnobnmjhpmpfaa.P

namespace Go.Proofs.Ytjnobnmjhpmpfaa.P
open Go.RowKit Go.Proofs.YtjnobnmjhpmpfaaW.PrintWords Go.Proofs.YtjnobnmjhpmpfaaW.PrintLast Go.Proofs.YtjnobnmjhpmpfaaW.PrintMore
attribute [local go_sem] max2_int min2_int max_two min_two max_three min_three max_four min_four
set_option linter.unusedVariables false
set_option linter.unusedSimpArgs false

end Go.Proofs.Ytjnobnmjhpmpfaa.P

namespace Go.Proofs.Ytjnobnmjhpmpfaa.P
open Go.RowKit Go.Proofs.YtjnobnmjhpmpfaaW.PrintWords Go.Proofs.YtjnobnmjhpmpfaaW.PrintLast Go.Proofs.YtjnobnmjhpmpfaaW.PrintMore
attribute [local go_sem] max2_int min2_int max_two min_two max_three min_three max_four min_four
set_option linter.unusedVariables false
set_option linter.unusedSimpArgs false

/-- What holds from some number of rounds on. -/
def From (P : Nat → Prop) : Prop := ∃ K, ∀ k, K ≤ k → P k
theorem From.and {P Q : Nat → Prop} (hp : From P) (hq : From Q) : From fun k => P k ∧ Q k := by
  obtain ⟨K, hK⟩ := hp
  obtain ⟨L, hL⟩ := hq
  exact ⟨max K L, fun k h => ⟨hK k (by omega), hL k (by omega)⟩⟩
theorem From.now {P : Nat → Prop} (h : From P) : ∃ k, P k := by
  obtain ⟨K, hK⟩ := h
  exact ⟨K, hK K (Nat.le_refl _)⟩
end Go.Proofs.Ytjnobnmjhpmpfaa.P

namespace Go.Proofs.Ytjnobnmjhpmpfaa.P
open Go.RowKit Go.Proofs.YtjnobnmjhpmpfaaW.PrintWords Go.Proofs.YtjnobnmjhpmpfaaW.PrintLast Go.Proofs.YtjnobnmjhpmpfaaW.PrintMore
attribute [local go_sem] max2_int min2_int max_two min_two max_three min_three max_four min_four
set_option linter.unusedVariables false
set_option linter.unusedSimpArgs false

mutual
/-- A gate's kids, marked from m on. -/
def mkT : Int → S29 → S29
  | m, ⟨_, _, l⟩ => ⟨m, m + 1, mkL (m + 2) l⟩
def mkL : Int → List S29 → List S29
  | _, [] => []
  | m, x :: l => mkT m x :: mkL (m + 2 + 2 * (mT x : Int)) l
end
theorem mkT_parts (m : Int) (x : S29) : mkT m x = ⟨m, m + 1, mkL (m + 2) x.f2⟩ := by cases x; simp only [mkT]
theorem mkL_cons (m : Int) (x : S29) (l : List S29) : mkL m (x :: l) = ⟨m, m + 1, mkL (m + 2) x.f2⟩ :: mkL (m + 2 + 2 * (mT x : Int)) l := by rw [← mkT_parts]; simp only [mkL]
theorem rdT_mid (pre r : List S29) (y : S29) : rd_T29 (pre ++ y :: r) (pre.length : Int) = y := by simp [rd_T29]
theorem mL_cons (x : S29) (l : List S29) : mL (x :: l) = 1 + mT x + mL l := by simp only [mL]
theorem markGS_ev : ∀ (n : Nat) (rest : List S29), mL rest ≤ n → n ≤ 1048576 → ∀ (pre : List S29) (m : Int), 0 ≤ m → m + 2 * (mL rest : Int) ≤ 4611686018427387904 → pre.length + rest.length ≤ 4611686018427387904 → Ev (fun k => laws_markGateS.l0 k (pre ++ rest) m (pre.length : Int)) (m + 2 * (mL rest : Int), pre ++ mkL m rest) := by
  intro n
  induction n with
  | zero =>
    intro rest hn hm pre m h0 h1 hp
    cases rest with
    | cons x r => rw [mL_cons] at hn; omega
    | nil =>
      refine Ev.step (f := fun _ => some (m, pre ++ [])) (fun k => ?_) ?_
      · simp only [laws_markGateS.l0]
        rw [if_neg (show ¬ ((pre.length : Int) < ((pre ++ ([] : List S29)).length : Int)) by simp)]
      · rw [show m + 2 * ((mL ([] : List S29) : Nat) : Int) = m by simp [mL], show mkL m [] = [] by simp only [mkL]]
        exact Ev.now _
  | succ n ih =>
    intro rest hn hm pre m h0 h1 hp
    cases rest with
    | nil =>
      refine Ev.step (f := fun _ => some (m, pre ++ [])) (fun k => ?_) ?_
      · simp only [laws_markGateS.l0]
        rw [if_neg (show ¬ ((pre.length : Int) < ((pre ++ ([] : List S29)).length : Int)) by simp)]
      · rw [show m + 2 * ((mL ([] : List S29) : Nat) : Int) = m by simp [mL], show mkL m [] = [] by simp only [mkL]]
        exact Ev.now _
    | cons x r =>
      rw [mL_cons] at hn h1
      rw [List.length_cons] at hp
      have hk := mT_kids x
      have hlx := mL_len x.f2
      have e1 : Ev (fun k => laws_markGateS.f k x.f2 (m + 2)) (m + 2 + 2 * (mL x.f2 : Int), mkL (m + 2) x.f2) :=
        Ev.step (f := fun k => laws_markGateS.l0 k x.f2 (m + 2) 0) (fun k => by simp only [laws_markGateS.f]) (ih x.f2 (by omega) (by omega) [] (m + 2) (by omega) (by omega) (by rw [List.length_nil]; omega))
      refine Ev.step (f := fun k => (laws_markGateS.f k x.f2 (m + 2)).bind fun t => laws_markGateS.l0 k ((pre ++ x :: r).set pre.length ⟨m, m + 1, t.2⟩) t.1 ((pre.length + 1 : Nat) : Int)) (fun k => ?_) (Ev.bind e1 ?_)
      · simp only [laws_markGateS.l0]
        rw [if_pos (by simp; omega), if_pos (by omega), rdT_mid, wr (x := m + 1) (by omega) (by omega), wr (x := m + 1 + 1) (by omega) (by omega), wr (x := (pre.length : Int) + 1) (by omega) (by omega), Int.toNat_natCast, show m + 1 + 1 = m + 2 by omega]
        rfl
      · dsimp only
        have e : (pre ++ x :: r).set pre.length (⟨m, m + 1, mkL (m + 2) x.f2⟩ : S29) = (pre ++ [⟨m, m + 1, mkL (m + 2) x.f2⟩]) ++ r := by
          rw [List.set_append_right _ _ (Nat.le_refl _), Nat.sub_self, List.set_cons_zero, List.append_assoc]; rfl
        have hl := mL_len r
        have h3 := ih r (by omega) (by omega) (pre ++ [⟨m, m + 1, mkL (m + 2) x.f2⟩]) (m + 2 + 2 * (mL x.f2 : Int)) (by omega) (by omega) (by rw [List.length_append, List.length_singleton]; omega)
        rw [List.length_append, List.length_singleton] at h3
        rw [e, mkL_cons, mL_cons, hk, show m + 2 * (((1 + mL x.f2 + mL r : Nat)) : Int) = m + 2 + 2 * (mL x.f2 : Int) + 2 * (mL r : Int) by omega, show pre ++ (⟨m, m + 1, mkL (m + 2) x.f2⟩ : S29) :: mkL (m + 2 + 2 * ((mL x.f2 : Nat) : Int)) r = (pre ++ [⟨m, m + 1, mkL (m + 2) x.f2⟩]) ++ mkL (m + 2 + 2 * ((mL x.f2 : Nat) : Int)) r by rw [List.append_assoc]; rfl]
        exact h3
theorem markGate_ev (a b : Int) (l : List S29) (h : mL l ≤ 1048576) : Ev (fun k => laws_markGate.f k a b l 1) (1 + 2 * (mL l : Int), mkL 1 l) :=
  Ev.step (f := fun k => laws_markGateS.l0 k l 1 0) (fun k => by simp only [laws_markGate.f, laws_markGateS.f]) (markGS_ev 1048576 l h (Nat.le_refl _) [] 1 (by omega) (by omega) (by have := mL_len l; rw [List.length_nil]; omega))
theorem heldGS_ev : ∀ (n : Nat) (rest : List S29), mL rest ≤ n → n ≤ 1048576 → ∀ (pre : List S29) (m : Int), 0 ≤ m → m + 2 * (mL rest : Int) ≤ 4611686018427387904 → pre.length + rest.length ≤ 4611686018427387904 → Ev (fun k => laws_heldGateS.l0 k (pre ++ mkL m rest) m (pre.length : Int)) (m + 2 * (mL rest : Int)) := by
  intro n
  induction n with
  | zero =>
    intro rest hn hm pre m h0 h1 hp
    cases rest with
    | cons x r => rw [mL_cons] at hn; omega
    | nil =>
      refine Ev.step (f := fun _ => some m) (fun k => ?_) ?_
      · rw [show mkL m ([] : List S29) = [] by simp only [mkL]]
        simp only [laws_heldGateS.l0]
        rw [if_neg (show ¬ ((pre.length : Int) < ((pre ++ ([] : List S29)).length : Int)) by simp)]
      · rw [show m + 2 * ((mL ([] : List S29) : Nat) : Int) = m by simp [mL]]
        exact Ev.now _
  | succ n ih =>
    intro rest hn hm pre m h0 h1 hp
    cases rest with
    | nil =>
      refine Ev.step (f := fun _ => some m) (fun k => ?_) ?_
      · rw [show mkL m ([] : List S29) = [] by simp only [mkL]]
        simp only [laws_heldGateS.l0]
        rw [if_neg (show ¬ ((pre.length : Int) < ((pre ++ ([] : List S29)).length : Int)) by simp)]
      · rw [show m + 2 * ((mL ([] : List S29) : Nat) : Int) = m by simp [mL]]
        exact Ev.now _
    | cons x r =>
      rw [mL_cons] at hn h1
      rw [List.length_cons] at hp
      have hk := mT_kids x
      have hlx := mL_len x.f2
      have e1 : Ev (fun k => laws_heldGateS.f k (mkL (m + 2) x.f2) (m + 2)) (m + 2 + 2 * (mL x.f2 : Int)) :=
        Ev.step (f := fun k => laws_heldGateS.l0 k (mkL (m + 2) x.f2) (m + 2) 0) (fun k => by simp only [laws_heldGateS.f]) (ih x.f2 (by omega) (by omega) [] (m + 2) (by omega) (by omega) (by rw [List.length_nil]; omega))
      rw [mkL_cons]
      refine Ev.step (f := fun k => (laws_heldGateS.f k (mkL (m + 2) x.f2) (m + 2)).bind fun t => if t < 0 then some (-1) else laws_heldGateS.l0 k (pre ++ ⟨m, m + 1, mkL (m + 2) x.f2⟩ :: mkL (m + 2 + 2 * (mT x : Int)) r) t ((pre.length + 1 : Nat) : Int)) (fun k => ?_) (Ev.bind e1 ?_)
      · simp only [laws_heldGateS.l0]
        rw [if_pos (by simp; omega), if_pos (by omega), rdT_mid]
        dsimp only
        rw [if_pos rfl, wr (x := m + 1) (by omega) (by omega), if_pos rfl, wr (x := m + 1 + 1) (by omega) (by omega), wr (x := (pre.length : Int) + 1) (by omega) (by omega), show m + 1 + 1 = m + 2 by omega]
        rfl
      · simp only [if_neg (show ¬ (m + 2 + 2 * ((mL x.f2 : Nat) : Int) < 0) by omega)]
        have hl := mL_len r
        have h3 := ih r (by omega) (by omega) (pre ++ [⟨m, m + 1, mkL (m + 2) x.f2⟩]) (m + 2 + 2 * (mL x.f2 : Int)) (by omega) (by omega) (by rw [List.length_append, List.length_singleton]; omega)
        rw [List.length_append, List.length_singleton] at h3
        rw [mL_cons, hk, show m + 2 * (((1 + mL x.f2 + mL r : Nat)) : Int) = m + 2 + 2 * (mL x.f2 : Int) + 2 * (mL r : Int) by omega, show pre ++ (⟨m, m + 1, mkL (m + 2) x.f2⟩ : S29) :: mkL (m + 2 + 2 * ((mL x.f2 : Nat) : Int)) r = (pre ++ [⟨m, m + 1, mkL (m + 2) x.f2⟩]) ++ mkL (m + 2 + 2 * ((mL x.f2 : Nat) : Int)) r by rw [List.append_assoc]; rfl]
        exact h3
theorem heldGate_ev (a b : Int) (l : List S29) (h : mL l ≤ 1048576) : Ev (fun k => laws_heldGate.f k a b (mkL 1 l) 1) (1 + 2 * (mL l : Int)) := by
  unfold laws_heldGate.f
  refine Ev.bind (Ev.step (f := fun k => laws_heldGateS.l0 k (mkL 1 l) 1 0) (fun k => by simp only [laws_heldGateS.f]) (heldGS_ev 1048576 l h (Nat.le_refl _) [] 1 (by omega) (by omega) (by have := mL_len l; rw [List.length_nil]; omega))) ?_
  simp only [if_neg (show ¬ (1 + 2 * ((mL l : Nat) : Int) < 0) by omega)]
  exact Ev.now _

end Go.Proofs.Ytjnobnmjhpmpfaa.P

namespace Go.Proofs.Ytjnobnmjhpmpfaa.P
open Go.RowKit Go.Proofs.YtjnobnmjhpmpfaaW.PrintWords Go.Proofs.YtjnobnmjhpmpfaaW.PrintLast Go.Proofs.YtjnobnmjhpmpfaaW.PrintMore
attribute [local go_sem] max2_int min2_int max_two min_two max_three min_three max_four min_four
set_option linter.unusedVariables false
set_option linter.unusedSimpArgs false

/-! ### spec_GateSize: function 13 (by hand) -/
end Go.Proofs.Ytjnobnmjhpmpfaa.P

namespace Go.Proofs.Ytjnobnmjhpmpfaa.P
open Go.RowKit Go.Proofs.YtjnobnmjhpmpfaaW.PrintWords Go.Proofs.YtjnobnmjhpmpfaaW.PrintLast Go.Proofs.YtjnobnmjhpmpfaaW.PrintMore
attribute [local go_sem] max2_int min2_int max_two min_two max_three min_three max_four min_four
set_option linter.unusedVariables false
set_option linter.unusedSimpArgs false

def rT : List S29 → Nat
  | [] => 0
  | x :: l => (1 + mT x) + rT l
theorem rT_mL : ∀ l : List S29, rT l = mL l
  | [] => rfl
  | x :: l => by simp only [rT, mL, rT_mL l]
theorem spec_l02Size_ev : ∀ (n : Nat) (x : S29), mT x ≤ n → n ≤ 1048576 → Ev (fun k => spec_l02Size.f k x) ((1 + mT x : Nat) : Int) := by
  intro n
  induction n using Nat.strongRecOn with
  | _ n ih =>
    intro x hn hm
    have hk := mT_kids x
    have hr := rT_mL x.f2
    have hl := mL_len x.f2
    have key : ∀ d i : Nat, i + d = x.f2.length → ∀ b : Nat, b + rT (x.f2.drop i) ≤ 1048577 → Ev (fun k => spec_l02Size.l0 k x (b : Int) (i : Int)) ((b + rT (x.f2.drop i) : Nat) : Int) := by
      intro d
      induction d with
      | zero =>
        intro i hi b hb
        rw [List.drop_eq_nil_of_le (by omega), show b + rT [] = b from rfl]
        refine Ev.step (f := fun _ => some (b : Int)) (fun k => ?_) (Ev.now _)
        simp only [spec_l02Size.l0]
        rw [if_neg (by omega)]
      | succ d ihd =>
        intro i hi b hb
        have hlt : i < x.f2.length := by omega
        have hx := mL_mem (List.getElem_mem hlt)
        rw [List.drop_eq_getElem_cons hlt, show rT (x.f2[i] :: x.f2.drop (i + 1)) = (1 + mT x.f2[i]) + rT (x.f2.drop (i + 1)) from rfl] at hb ⊢
        have hnext := ihd (i + 1) (by omega) (b + (1 + mT x.f2[i])) (by omega)
        refine Ev.step (f := fun k => (spec_l02Size.f k x.f2[i]).bind fun t => spec_l02Size.l0 k x (wrap64 ((b : Int) + t)) ((i + 1 : Nat) : Int)) (fun k => ?_) (Ev.bind (ih (mT x.f2[i]) (by omega) _ (Nat.le_refl _) (by omega)) ?_)
        · simp only [spec_l02Size.l0]
          rw [if_pos (by omega), if_pos (by omega), rdT_impl _ i hlt, wr (x := (i : Int) + 1) (by omega) (by omega)]
          rfl
        · rw [wr (by omega) (by omega), show (b : Int) + ((1 + mT x.f2[i] : Nat) : Int) = ((b + (1 + mT x.f2[i]) : Nat) : Int) by omega, show b + (1 + mT x.f2[i] + rT (x.f2.drop (i + 1))) = b + (1 + mT x.f2[i]) + rT (x.f2.drop (i + 1)) by omega]
          exact hnext
    have h := key x.f2.length 0 (by omega) 1 (by rw [List.drop_zero]; omega)
    rw [List.drop_zero, hr, ← hk] at h
    exact Ev.step (f := fun k => spec_l02Size.l0 k x 1 0) (fun k => by simp only [spec_l02Size.f]) h
theorem impl_GateSize_ev : ∀ (n : Nat) (a b : Int) (l : List S29), mL l ≤ n → n ≤ 1048576 → Ev (fun k => impl_GateSize.f k a b l) ((1 + mL l : Nat) : Int) := by
  intro n
  induction n using Nat.strongRecOn with
  | _ n ih =>
    intro a0 a1 l hn hm
    have hr := rT_mL l
    have hl := mL_len l
    have key : ∀ d i : Nat, i + d = l.length → ∀ b : Nat, b + rT (l.drop i) ≤ 1048577 → Ev (fun k => impl_GateSize.l0 k (b : Int) l (l.length : Int) (i : Int)) ((b + rT (l.drop i) : Nat) : Int) := by
      intro d
      induction d with
      | zero =>
        intro i hi b hb
        rw [List.drop_eq_nil_of_le (by omega), show b + rT [] = b from rfl]
        refine Ev.step (f := fun _ => some (b : Int)) (fun k => ?_) (Ev.now _)
        simp only [impl_GateSize.l0]
        rw [if_neg (by omega)]
      | succ d ihd =>
        intro i hi b hb
        have hlt : i < l.length := by omega
        have hx := mL_mem (List.getElem_mem hlt)
        have hk := mT_kids l[i]
        rw [List.drop_eq_getElem_cons hlt, show rT (l[i] :: l.drop (i + 1)) = (1 + mT l[i]) + rT (l.drop (i + 1)) from rfl] at hb ⊢
        have hnext := ihd (i + 1) (by omega) (b + (1 + mT l[i])) (by omega)
        refine Ev.step (f := fun k => (impl_GateSize.f k l[i].f0 l[i].f1 l[i].f2).bind fun t => impl_GateSize.l0 k (wrap64 ((b : Int) + t)) l (l.length : Int) ((i + 1 : Nat) : Int)) (fun k => ?_) (Ev.bind (ih (mL l[i].f2) (by omega) _ _ _ (Nat.le_refl _) (by omega)) ?_)
        · simp only [impl_GateSize.l0]
          rw [if_pos (by omega), if_pos (by omega), if_pos (by omega), rdT_impl _ i hlt, wr (x := (i : Int) + 1) (by omega) (by omega)]
          rfl
        · rw [← hk, wr (by omega) (by omega), show (b : Int) + ((1 + mT l[i] : Nat) : Int) = ((b + (1 + mT l[i]) : Nat) : Int) by omega, show b + (1 + mT l[i] + rT (l.drop (i + 1))) = b + (1 + mT l[i]) + rT (l.drop (i + 1)) by omega]
          exact hnext
    have h := key l.length 0 (by omega) 1 (by rw [List.drop_zero]; omega)
    rw [List.drop_zero, hr] at h
    exact Ev.step (f := fun k => impl_GateSize.l0 k 1 l (l.length : Int) 0) (fun k => by simp only [impl_GateSize.f]) h
end Go.Proofs.Ytjnobnmjhpmpfaa.P

namespace Go.Proofs.Ytjnobnmjhpmpfaa.P
open Go.RowKit Go.Proofs.YtjnobnmjhpmpfaaW.PrintWords Go.Proofs.YtjnobnmjhpmpfaaW.PrintLast Go.Proofs.YtjnobnmjhpmpfaaW.PrintMore
attribute [local go_sem] max2_int min2_int max_two min_two max_three min_three max_four min_four
set_option linter.unusedVariables false
set_option linter.unusedSimpArgs false

/-! ### spec_ValidGate: function 19 (by hand) -/
def spec_ValidGate.f (k : Nat) (h : Int) (a1_0 : Int) (a1_1 : Int) (l1_2 : List S29) : Option Bool := spec_l02Ok.f k h ⟨a1_0, a1_1, l1_2⟩
end Go.Proofs.Ytjnobnmjhpmpfaa.P

namespace Go.Proofs.Ytjnobnmjhpmpfaa.P
open Go.RowKit Go.Proofs.YtjnobnmjhpmpfaaW.PrintWords Go.Proofs.YtjnobnmjhpmpfaaW.PrintLast Go.Proofs.YtjnobnmjhpmpfaaW.PrintMore
attribute [local go_sem] max2_int min2_int max_two min_two max_three min_three max_four min_four
set_option linter.unusedVariables false
set_option linter.unusedSimpArgs false

theorem idxG_ev (p : Nat → S29 → Option Bool) (q : S29 → Bool) (xs : List S29) (hlen : xs.length ≤ 4611686018427387904) (hp : ∀ x ∈ xs, Ev (fun k => p k x) (q x)) (hm : ∀ x k, LeO (p k x) (p (k + 1) x)) :
    ∀ d i : Nat, i + d = xs.length → ∃ r : Int, Ev (fun k => idxG.l0 k (p k) xs (i : Int)) r ∧ decide (0 ≤ r) = (xs.drop i).any q := by
  have up : ∀ {r : Int} {i : Int}, Ev (fun k => idxG.l0 k (p k) xs i) r → Ev (fun k => idxG.l0 k (p (k + 1)) xs i) r := by
    rintro r i ⟨K, h⟩
    exact ⟨K, fun k hk => idxG.mono_p _ _ _ _ _ (fun x => hm x k) r (h k hk)⟩
  have one : ∀ x ∈ xs, Ev (fun k => p (k + 1) x) (q x) := fun x hx => by
    obtain ⟨K, h⟩ := hp x hx
    exact ⟨K, fun k hk => h (k + 1) (by omega)⟩
  intro d
  induction d with
  | zero =>
    intro i hi
    refine ⟨-1, Ev.step (f := fun _ => some (-1)) (fun k => ?_) (Ev.now _), ?_⟩
    · simp only [idxG.l0]
      rw [if_neg (by omega)]
    · rw [List.drop_eq_nil_of_le (by omega)]; rfl
  | succ d ih =>
    intro i hi
    have hlt : i < xs.length := by omega
    obtain ⟨r, hr, hd⟩ := ih (i + 1) (by omega)
    have hx := one _ (List.getElem_mem hlt)
    rw [List.drop_eq_getElem_cons hlt, List.any_cons]
    have step : ∀ {r : Int}, Ev (fun k => (p (k + 1) xs[i]).bind fun t => if t = true then some (i : Int) else idxG.l0 k (p (k + 1)) xs ((i + 1 : Nat) : Int)) r → Ev (fun k => idxG.l0 k (p k) xs (i : Int)) r := fun h => by
      refine Ev.step (g := fun k => idxG.l0 k (p k) xs (i : Int)) (fun k => ?_) h
      simp only [idxG.l0]
      rw [if_pos (by omega), if_pos (by omega), rdT_impl xs i hlt, wr (by omega) (by omega)]
      rfl
    cases hq : q xs[i] with
    | true =>
      refine ⟨i, step (Ev.bind hx ?_), ?_⟩
      · simp only [hq, if_true]; exact Ev.now _
      · rw [Bool.true_or]; exact decide_eq_true (by omega)
    | false =>
      refine ⟨r, step (Ev.bind hx ?_), ?_⟩
      · simp only [hq]; exact up hr
      · rw [Bool.false_or]; exact hd
theorem hasG_ev (p : Nat → S29 → Option Bool) (q : S29 → Bool) (xs : List S29) (hlen : xs.length ≤ 4611686018427387904) (hp : ∀ x ∈ xs, Ev (fun k => p k x) (q x)) (hm : ∀ x k, LeO (p k x) (p (k + 1) x)) : Ev (fun k => hasG.f k (p k) xs) (xs.any q) := by
  obtain ⟨r, hr, hd⟩ := idxG_ev p q xs hlen hp hm xs.length 0 (by omega)
  rw [List.drop_zero] at hd
  rw [← hd]
  exact Ev.bind hr (Ev.now _)
theorem not_any_allG {α : Type} (l : List α) (q : α → Bool) : (!(l.any fun a => !q a)) = l.all q := by
  induction l with
  | nil => rfl
  | cons a l ih => rw [List.any_cons, List.all_cons, ← ih, Bool.not_or, Bool.not_not]
mutual
/-- How deep a gate is. -/
def dT : S29 → Nat
  | ⟨_, _, l⟩ => 1 + dL l
def dL : List S29 → Nat
  | [] => 0
  | x :: l => max (dT x) (dL l)
end
mutual
/-- Has a gate the form of one? -/
def fT (h : Int) : S29 → Bool
  | ⟨a, b, l⟩ => if l.isEmpty then (decide (b = 0) && decide (0 ≤ a ∧ a ≤ h - 1)) else (fL h l && (decide (a = -1) && decide (1 ≤ b ∧ b ≤ (l.length : Int))))
def fL (h : Int) : List S29 → Bool
  | [] => true
  | x :: l => fT h x && fL h l
end
theorem dT_parts (x : S29) : dT x = 1 + dL x.f2 := by cases x; simp only [dT]
theorem fT_parts (h : Int) (x : S29) : fT h x = if x.f2.isEmpty then (decide (x.f1 = 0) && decide (0 ≤ x.f0 ∧ x.f0 ≤ h - 1)) else (fL h x.f2 && (decide (x.f0 = -1) && decide (1 ≤ x.f1 ∧ x.f1 ≤ (x.f2.length : Int)))) := by cases x; simp only [fT]
theorem fL_all (h : Int) : ∀ l : List S29, fL h l = l.all (fT h)
  | [] => by simp only [fL, List.all_nil]
  | x :: l => by simp only [fL, List.all_cons, fL_all h l]
theorem dL_le : ∀ (l : List S29) (n : Nat), decide (dL l ≤ n) = l.all fun x => decide (dT x ≤ n)
  | [], n => by simp [dL]
  | x :: l, n => by
    have e : dL (x :: l) = max (dT x) (dL l) := by simp only [dL]
    rw [List.all_cons, ← dL_le l n]
    by_cases h1 : dT x ≤ n
    · by_cases h2 : dL l ≤ n
      · rw [decide_eq_true h1, decide_eq_true h2, decide_eq_true (show dL (x :: l) ≤ n by omega)]; rfl
      · rw [decide_eq_false h2, Bool.and_false, decide_eq_false (show ¬ dL (x :: l) ≤ n by omega)]
    · rw [decide_eq_false h1, Bool.false_and, decide_eq_false (show ¬ dL (x :: l) ≤ n by omega)]
theorem all_and {α : Type} (p q : α → Bool) (l : List α) : (l.all fun y => p y && q y) = (l.all p && l.all q) := by
  induction l with
  | nil => rfl
  | cons x l ih =>
    rw [List.all_cons, List.all_cons, List.all_cons, ih]
    cases p x <;> cases q x <;> simp
theorem dL_nil : dL [] = 0 := by simp only [dL]
theorem dL_cons (x : S29) (l : List S29) : dL (x :: l) = max (dT x) (dL l) := by simp only [dL]
theorem dL_mL : ∀ n, ∀ l : List S29, mL l ≤ n → dL l ≤ mL l := by
  intro n
  induction n with
  | zero =>
    intro l h
    cases l with
    | nil => rw [dL_nil]; exact Nat.zero_le _
    | cons x l => simp only [mL] at h; omega
  | succ n ih =>
    intro l h
    induction l with
    | nil => rw [dL_nil]; exact Nat.zero_le _
    | cons x l ihl =>
      rw [dL_cons, dT_parts]
      simp only [mL] at h ⊢
      have hk := mT_kids x
      have h1 := ih x.f2 (by omega)
      have h2 := ihl (by omega)
      exact Nat.max_le.mpr ⟨by omega, by omega⟩
/-- What is left: exact where it suffices, and less than 0 elsewhere. -/
theorem spec_l02Left_ev : ∀ (n : Nat) (x : S29), mT x ≤ n → n ≤ 1048576 → ∀ left : Int, 0 ≤ left → left ≤ 1048576 → ∃ t : Int, Ev (fun k => spec_l02Left.f k x left) t ∧ (((1 + mT x : Nat) : Int) ≤ left → t = left - ((1 + mT x : Nat) : Int)) ∧ (¬ ((1 + mT x : Nat) : Int) ≤ left → t < 0) ∧ -1 ≤ t := by
  intro n
  induction n using Nat.strongRecOn with
  | _ n ih =>
    intro x hn hm left h0 h1
    have hk := mT_kids x
    have hr := rT_mL x.f2
    have hl := mL_len x.f2
    have key : ∀ d i : Nat, i + d = x.f2.length → ∀ b : Int, -1 ≤ b → b ≤ 1048576 → ∃ t : Int, Ev (fun k => spec_l02Left.l0 k x b (i : Int)) t ∧ ((rT (x.f2.drop i) : Int) ≤ b → t = b - rT (x.f2.drop i)) ∧ (¬ (rT (x.f2.drop i) : Int) ≤ b → t < 0) ∧ -1 ≤ t := by
      intro d
      induction d with
      | zero =>
        intro i hi b hb0 hb1
        rw [List.drop_eq_nil_of_le (by omega), show rT [] = 0 from rfl]
        refine ⟨b, Ev.step (f := fun _ => some b) (fun k => ?_) (Ev.now _), fun _ => by omega, fun _ => by omega, hb0⟩
        simp only [spec_l02Left.l0]
        rw [if_neg (by omega)]
      | succ d ihd =>
        intro i hi b hb0 hb1
        have hlt : i < x.f2.length := by omega
        have hx := mL_mem (List.getElem_mem hlt)
        rw [List.drop_eq_getElem_cons hlt, show rT (x.f2[i] :: x.f2.drop (i + 1)) = (1 + mT x.f2[i]) + rT (x.f2.drop (i + 1)) from rfl]
        by_cases hb : b ≥ 0
        · obtain ⟨t, ht, h2, h3, h4⟩ := ih (mT x.f2[i]) (by omega) x.f2[i] (Nat.le_refl _) (by omega) b hb hb1
          have hle : t ≤ 1048576 := by
            by_cases q : ((1 + mT x.f2[i] : Nat) : Int) ≤ b
            · have := h2 q; omega
            · have := h3 q; omega
          obtain ⟨u, hu, g2, g3, g4⟩ := ihd (i + 1) (by omega) t h4 hle
          refine ⟨u, Ev.step (f := fun k => (spec_l02Left.f k x.f2[i] b).bind fun t => spec_l02Left.l0 k x t ((i + 1 : Nat) : Int)) (fun k => ?_) (Ev.bind ht hu), fun q => ?_, fun q => ?_, g4⟩
          · simp only [spec_l02Left.l0]
            rw [if_pos (by omega), if_pos hb, if_pos (by omega), rdT_impl _ i hlt, wr (x := (i : Int) + 1) (by omega) (by omega)]
            rfl
          · have e := h2 (by omega)
            have := g2 (by omega)
            omega
          · by_cases q2 : ((1 + mT x.f2[i] : Nat) : Int) ≤ b
            · have e := h2 q2
              exact g3 (by omega)
            · have e := h3 q2
              exact g3 (by omega)
        · refine ⟨b, Ev.step (f := fun _ => some b) (fun k => ?_) (Ev.now _), fun q => by omega, fun q => by omega, hb0⟩
          simp only [spec_l02Left.l0]
          rw [if_pos (by omega), if_neg hb]
    obtain ⟨t, ht, h2, h3, h4⟩ := key x.f2.length 0 (by omega) (left - 1) (by omega) (by omega)
    rw [List.drop_zero, hr, ← hk] at h2 h3
    refine ⟨t, Ev.step (f := fun k => spec_l02Left.l0 k x (left - 1) 0) (fun k => by simp only [spec_l02Left.f]; rw [wr (by omega) (by omega)]) ht, fun q => ?_, fun q => ?_, h4⟩
    · have := h2 (by omega); omega
    · exact h3 (by omega)
theorem max_eq (a b : Int) : spec_l00Max.f a b = some (max a b) := by
  unfold spec_l00Max.f
  by_cases h : a > b
  · rw [if_pos h]; exact congrArg some (by omega)
  · rw [if_neg h]; exact congrArg some (by omega)
theorem spec_l02Depth_ev : ∀ (n : Nat) (x : S29), mT x ≤ n → n ≤ 1048576 → Ev (fun k => spec_l02Depth.f k x) (dT x : Int) := by
  intro n
  induction n using Nat.strongRecOn with
  | _ n ih =>
    intro x hn hm
    have hk := mT_kids x
    have hl := mL_len x.f2
    have hd := dL_mL _ x.f2 (Nat.le_refl _)
    have key : ∀ d i : Nat, i + d = x.f2.length → ∀ b : Nat, b ≤ 1048577 → dL (x.f2.drop i) ≤ 1048577 → Ev (fun k => spec_l02Depth.l0 k x (b : Int) (i : Int)) ((1 + max b (dL (x.f2.drop i)) : Nat) : Int) := by
      intro d
      induction d with
      | zero =>
        intro i hi b hb _
        rw [List.drop_eq_nil_of_le (by omega), dL_nil]
        refine Ev.step (f := fun _ => some ((1 + max b 0 : Nat) : Int)) (fun k => ?_) (Ev.now _)
        simp only [spec_l02Depth.l0]
        rw [if_neg (by omega), wr (by omega) (by omega)]
        exact congrArg some (by omega)
      | succ d ihd =>
        intro i hi b hb hdl
        have hlt : i < x.f2.length := by omega
        have hx := mL_mem (List.getElem_mem hlt)
        rw [List.drop_eq_getElem_cons hlt, dL_cons] at hdl ⊢
        have hn2 := ihd (i + 1) (by omega) (max b (dT x.f2[i])) (by omega) (by omega)
        refine Ev.step (f := fun k => (spec_l02Depth.f k x.f2[i]).bind fun t => spec_l02Depth.l0 k x (max (b : Int) t) ((i + 1 : Nat) : Int)) (fun k => ?_) (Ev.bind (ih (mT x.f2[i]) (by omega) _ (Nat.le_refl _) (by omega)) ?_)
        · simp only [spec_l02Depth.l0, max_eq, Option.bind_some]
          rw [if_pos (by omega), if_pos (by omega), rdT_impl _ i hlt, wr (x := (i : Int) + 1) (by omega) (by omega)]
          rfl
        · rw [show max (b : Int) ((dT x.f2[i] : Nat) : Int) = ((max b (dT x.f2[i]) : Nat) : Int) by omega, show max b (max (dT x.f2[i]) (dL (x.f2.drop (i + 1)))) = max (max b (dT x.f2[i])) (dL (x.f2.drop (i + 1))) by omega]
          exact hn2
    have h := key x.f2.length 0 (by omega) 0 (by omega) (by rw [List.drop_zero]; omega)
    rw [List.drop_zero, Nat.zero_max, ← dT_parts] at h
    exact Ev.step (f := fun k => spec_l02Depth.l0 k x 0 0) (fun k => by simp only [spec_l02Depth.f]) h
theorem spec_l02Form_ev (h : Int) (hh : 1 ≤ h ∧ h ≤ 7) : ∀ (n : Nat) (x : S29), mT x ≤ n → n ≤ 1048576 → Ev (fun k => spec_l02Form.f k h x) (fT h x) := by
  intro n
  induction n using Nat.strongRecOn with
  | _ n ih =>
    intro x hn hm
    have hk := mT_kids x
    have hl := mL_len x.f2
    rw [fT_parts]
    by_cases c1 : (x.f2.length : Int) = 0
    · have e0 : x.f2.isEmpty = true := by
        rw [List.isEmpty_iff]
        exact List.eq_nil_of_length_eq_zero (by omega)
      rw [if_pos e0]
      refine Ev.step (f := fun _ => some (decide (x.f1 = 0) && decide (0 ≤ x.f0 ∧ x.f0 ≤ h - 1))) (fun k => ?_) (Ev.now _)
      simp only [spec_l02Form.f]
      rw [if_pos c1, wr (by omega) (by omega)]
      by_cases c2 : x.f1 = 0
      · rw [if_pos c2, spec_l00In_eq, decide_eq_true c2, Bool.true_and]
      · rw [if_neg c2, decide_eq_false c2, Bool.false_and]
    · have e0 : ¬ x.f2.isEmpty = true := by
        rw [List.isEmpty_iff]
        intro e
        rw [e] at c1
        exact c1 rfl
      rw [if_neg e0]
      have key : ∀ d i : Nat, i + d = x.f2.length → Ev (fun k => spec_l02Form.l0 k h x (i : Int)) (fL h (x.f2.drop i) && (decide (x.f0 = -1) && decide (1 ≤ x.f1 ∧ x.f1 ≤ (x.f2.length : Int)))) := by
        intro d
        induction d with
        | zero =>
          intro i hi
          rw [List.drop_eq_nil_of_le (by omega), show fL h [] = true from by simp only [fL], Bool.true_and]
          refine Ev.step (f := fun _ => some (decide (x.f0 = -1) && decide (1 ≤ x.f1 ∧ x.f1 ≤ (x.f2.length : Int)))) (fun k => ?_) (Ev.now _)
          simp only [spec_l02Form.l0]
          rw [if_neg (by omega)]
          by_cases c2 : x.f0 = -1
          · rw [if_pos c2, spec_l00In_eq, decide_eq_true c2, Bool.true_and]
          · rw [if_neg c2, decide_eq_false c2, Bool.false_and]
        | succ d ihd =>
          intro i hi
          have hlt : i < x.f2.length := by omega
          have hx := mL_mem (List.getElem_mem hlt)
          rw [List.drop_eq_getElem_cons hlt, show fL h (x.f2[i] :: x.f2.drop (i + 1)) = (fT h x.f2[i] && fL h (x.f2.drop (i + 1))) from by simp only [fL]]
          refine Ev.step (f := fun k => (spec_l02Form.f k h x.f2[i]).bind fun t => if t = true then spec_l02Form.l0 k h x ((i + 1 : Nat) : Int) else some false) (fun k => ?_) (Ev.bind (ih (mT x.f2[i]) (by omega) _ (Nat.le_refl _) (by omega)) ?_)
          · simp only [spec_l02Form.l0]
            rw [if_pos (by omega), if_pos (by omega), rdT_impl _ i hlt, wr (x := (i : Int) + 1) (by omega) (by omega)]
            rfl
          · cases fT h x.f2[i] with
            | true => rw [Bool.true_and]; exact ihd (i + 1) (by omega)
            | false => exact Ev.now _
      have hq := key x.f2.length 0 (by omega)
      rw [List.drop_zero] at hq
      exact Ev.step (f := fun k => spec_l02Form.l0 k h x 0) (fun k => by simp only [spec_l02Form.f]; rw [if_neg c1]) hq
theorem isFormed_ev (h : Int) (hh : 1 ≤ h ∧ h ≤ 7) : ∀ (d : Nat), d ≤ 1000 → ∀ x : S29, mT x ≤ 1048576 → Ev (fun k => impl_Gate_isFormed.f k x.f0 x.f1 x.f2 h (d : Int)) (decide (dT x ≤ d) && fT h x) := by
  intro d
  induction d with
  | zero =>
    intro hd x hm
    rw [decide_eq_false (by rw [dT_parts]; omega), Bool.false_and]
    exact Ev.step (f := fun _ => some false) (fun k => by simp only [impl_Gate_isFormed.f]; rw [if_pos (by omega)]) (Ev.now _)
  | succ d ih =>
    intro hd x hm
    have hk := mT_kids x
    have hl := mL_len x.f2
    rw [fT_parts]
    by_cases c1 : (x.f2.length : Int) = 0
    · have e1 : x.f2 = [] := List.eq_nil_of_length_eq_zero (by omega)
      have e0 : x.f2.isEmpty = true := by rw [List.isEmpty_iff]; exact e1
      rw [if_pos e0, decide_eq_true (by rw [dT_parts, e1, dL_nil]; omega), Bool.true_and]
      refine Ev.step (f := fun _ => some (decide (x.f1 = 0) && decide (0 ≤ x.f0 ∧ x.f0 ≤ h - 1))) (fun k => ?_) (Ev.now _)
      simp only [impl_Gate_isFormed.f]
      rw [if_neg (by omega), if_pos c1, impl_within_eq, wr (by omega) (by omega)]
      simp only [Option.bind_some]
      by_cases c2 : x.f1 = 0
      · rw [decide_eq_true c2, Bool.true_and, beq_iff_eq.mpr c2]
        cases decide (0 ≤ x.f0 ∧ x.f0 ≤ h - 1) <;> rfl
      · rw [decide_eq_false c2, Bool.false_and, beq_eq_false_iff_ne.mpr c2]
        cases decide (0 ≤ x.f0 ∧ x.f0 ≤ h - 1) <;> rfl
    · have e0 : ¬ x.f2.isEmpty = true := by
        rw [List.isEmpty_iff]
        intro e
        rw [e] at c1
        exact c1 rfl
      rw [if_neg e0, show decide (dT x ≤ d + 1) = decide (dL x.f2 ≤ d) from by rw [dT_parts]; by_cases q : dL x.f2 ≤ d; rw [decide_eq_true q, decide_eq_true (by omega)]; rw [decide_eq_false q, decide_eq_false (by omega)]]
      by_cases c2 : x.f0 = -1
      · cases hw : decide (1 ≤ x.f1 ∧ x.f1 ≤ (x.f2.length : Int)) with
        | false =>
          rw [Bool.and_false, Bool.and_false, Bool.and_false]
          refine Ev.step (f := fun _ => some false) (fun k => ?_) (Ev.now _)
          simp only [impl_Gate_isFormed.f]
          rw [if_neg (by omega), if_neg c1, if_pos c2, impl_within_eq, hw]
          rfl
        | true =>
          rw [decide_eq_true c2, Bool.true_and, Bool.and_true, dL_le, fL_all]
          have hb := hasG_ev (fun k y => (impl_Gate_isFormed.f k y.f0 y.f1 y.f2 h (d : Int)).bind fun t => some (!t)) (fun y => !(decide (dT y ≤ d) && fT h y)) x.f2 (by omega) (fun y hy => Ev.bind (ih (by omega) y (by have := mL_mem hy; omega)) (Ev.now _)) (fun y k => LeO.bind (impl_Gate_isFormed.mono_l k _ _ _ _ _) (fun _ => LeO.refl _))
          refine Ev.step (f := fun k => (hasG.f k (fun y => (impl_Gate_isFormed.f k y.f0 y.f1 y.f2 h (d : Int)).bind fun t => some (!t)) x.f2).bind fun v => some (!v)) (fun k => ?_) (Ev.bind hb ?_)
          · simp only [impl_Gate_isFormed.f]
            rw [if_neg (by omega), if_neg c1, if_pos c2, impl_within_eq, hw, wr (by omega) (by omega), show ((d + 1 : Nat) : Int) - 1 = (d : Int) by omega]
            rfl
          · rw [not_any_allG, show (x.f2.all fun y => decide (dT y ≤ d) && fT h y) = (x.f2.all (fun x => decide (dT x ≤ d)) && x.f2.all (fT h)) from all_and _ _ _]
            exact Ev.now _
      · rw [decide_eq_false c2, Bool.false_and, Bool.and_false, Bool.and_false]
        exact Ev.step (f := fun _ => some false) (fun k => by simp only [impl_Gate_isFormed.f]; rw [if_neg (by omega), if_neg c1, if_neg c2]) (Ev.now _)
/-- Is a gate valid? -/
def okT (h : Int) (x : S29) : Bool := decide (1 ≤ h ∧ h ≤ 7) && (decide (1 + mT x ≤ 60) && (decide (dT x ≤ 12) && fT h x))
theorem spec_l02Ok_ev (h : Int) (x : S29) (hx : mT x ≤ 1048576) : Ev (fun k => spec_l02Ok.f k h x) (okT h x) := by
  unfold spec_l02Ok.f okT
  rw [spec_l00In_eq]
  simp only [Option.bind_some]
  cases h1 : decide (1 ≤ h ∧ h ≤ 7) with
  | false => exact Ev.now _
  | true =>
    have hh := of_decide_eq_true h1
    simp only [if_true, Bool.true_and]
    obtain ⟨t, ht, g1, g2, _⟩ := spec_l02Left_ev _ x (Nat.le_refl _) hx 60 (by omega) (by omega)
    refine Ev.bind ht ?_
    by_cases c1 : 1 + mT x ≤ 60
    · have := g1 (by omega)
      simp only [if_pos (show t ≥ 0 by omega), decide_eq_true c1, Bool.true_and]
      refine Ev.bind (spec_l02Depth_ev _ x (Nat.le_refl _) hx) ?_
      by_cases c2 : dT x ≤ 12
      · simp only [if_pos (show (dT x : Int) ≤ 12 by omega), decide_eq_true c2, Bool.true_and]
        exact spec_l02Form_ev h hh _ x (Nat.le_refl _) hx
      · simp only [if_neg (show ¬ (dT x : Int) ≤ 12 by omega), decide_eq_false c2, Bool.false_and]
        exact Ev.now _
    · have := g2 (by omega)
      simp only [if_neg (show ¬ t ≥ 0 by omega), decide_eq_false c1, Bool.false_and]
      exact Ev.now _
theorem spec_ValidGate_ev (h a b : Int) (l : List S29) (hm : mL l ≤ 1048576) : Ev (fun k => spec_ValidGate.f k h a b l) (okT h ⟨a, b, l⟩) := spec_l02Ok_ev h ⟨a, b, l⟩ (by rw [mT_kids]; exact hm)
theorem impl_ValidGate_ev (h a b : Int) (l : List S29) (hm : mL l ≤ 1048576) : Ev (fun k => impl_ValidGate.f k h a b l) (okT h ⟨a, b, l⟩) := by
  have hx : mT (⟨a, b, l⟩ : S29) ≤ 1048576 := by rw [mT_kids]; exact hm
  have hk : mT (⟨a, b, l⟩ : S29) = mL l := by rw [mT_kids]
  unfold impl_ValidGate.f okT
  rw [impl_within_eq]
  simp only [Option.bind_some]
  cases h1 : decide (1 ≤ h ∧ h ≤ 7) with
  | false => exact Ev.now _
  | true =>
    have hh := of_decide_eq_true h1
    simp only [if_true, Bool.true_and]
    refine Ev.bind (isFormed_ev h hh 12 (by omega) ⟨a, b, l⟩ hx) ?_
    cases decide (dT (⟨a, b, l⟩ : S29) ≤ 12) && fT h ⟨a, b, l⟩ with
    | false => rw [Bool.and_false]; exact Ev.now _
    | true =>
      rw [Bool.and_true, hk]
      simp only [if_true]
      refine Ev.bind (impl_GateSize_ev _ a b l (Nat.le_refl _) hm) ?_
      rw [show decide (((1 + mL l : Nat) : Int) ≤ 60) = decide (1 + mL l ≤ 60) from by by_cases q : 1 + mL l ≤ 60; rw [decide_eq_true q, decide_eq_true (by omega)]; rw [decide_eq_false q, decide_eq_false (by omega)]]
      exact Ev.now _

end Go.Proofs.Ytjnobnmjhpmpfaa.P

namespace Go.Proofs.Ytjnobnmjhpmpfaa.P
open Go.RowKit Go.Proofs.YtjnobnmjhpmpfaaW.PrintWords Go.Proofs.YtjnobnmjhpmpfaaW.PrintLast Go.Proofs.YtjnobnmjhpmpfaaW.PrintMore
attribute [local go_sem] max2_int min2_int max_two min_two max_three min_three max_four min_four
set_option linter.unusedVariables false
set_option linter.unusedSimpArgs false

/-! ### spec_l02Dual: function 52 (by hand) -/
end Go.Proofs.Ytjnobnmjhpmpfaa.P

namespace Go.Proofs.Ytjnobnmjhpmpfaa.P
open Go.RowKit Go.Proofs.YtjnobnmjhpmpfaaW.PrintWords Go.Proofs.YtjnobnmjhpmpfaaW.PrintLast Go.Proofs.YtjnobnmjhpmpfaaW.PrintMore
attribute [local go_sem] max2_int min2_int max_two min_two max_three min_three max_four min_four
set_option linter.unusedVariables false
set_option linter.unusedSimpArgs false

/-! ### spec_DualGate: function 21 (by hand) -/
end Go.Proofs.Ytjnobnmjhpmpfaa.P

namespace Go.Proofs.Ytjnobnmjhpmpfaa.P
open Go.RowKit Go.Proofs.YtjnobnmjhpmpfaaW.PrintWords Go.Proofs.YtjnobnmjhpmpfaaW.PrintLast Go.Proofs.YtjnobnmjhpmpfaaW.PrintMore
attribute [local go_sem] max2_int min2_int max_two min_two max_three min_three max_four min_four
set_option linter.unusedVariables false
set_option linter.unusedSimpArgs false

/-! ### impl_DualGate: function 22 (by hand) -/
end Go.Proofs.Ytjnobnmjhpmpfaa.P

namespace Go.Proofs.Ytjnobnmjhpmpfaa.P
open Go.RowKit Go.Proofs.YtjnobnmjhpmpfaaW.PrintWords Go.Proofs.YtjnobnmjhpmpfaaW.PrintLast Go.Proofs.YtjnobnmjhpmpfaaW.PrintMore
attribute [local go_sem] max2_int min2_int max_two min_two max_three min_three max_four min_four
set_option linter.unusedVariables false
set_option linter.unusedSimpArgs false

mutual
/-- What mapped answers: the leaves and the inner gates by functions, a state handed from leaf to leaf. -/
def mapT {σ : Type} (lv : σ → Int → S29 × σ) (iv : Int → List S29 → S29) : σ → S29 → S29 × σ
  | s, ⟨a, b, l⟩ => if l.isEmpty then lv s a else (iv b (mapL lv iv s l).1, (mapL lv iv s l).2)
def mapL {σ : Type} (lv : σ → Int → S29 × σ) (iv : Int → List S29 → S29) : σ → List S29 → List S29 × σ
  | s, [] => ([], s)
  | s, x :: l => ((mapT lv iv s x).1 :: (mapL lv iv (mapT lv iv s x).2 l).1, (mapL lv iv (mapT lv iv s x).2 l).2)
end
theorem mapT_parts {σ : Type} (lv : σ → Int → S29 × σ) (iv : Int → List S29 → S29) (s : σ) (x : S29) : mapT lv iv s x = if x.f2.isEmpty then lv s x.f0 else (iv x.f1 (mapL lv iv s x.f2).1, (mapL lv iv s x.f2).2) := by cases x; simp only [mapT]
theorem mapL_cons {σ : Type} (lv : σ → Int → S29 × σ) (iv : Int → List S29 → S29) (s : σ) (x : S29) (l : List S29) : mapL lv iv s (x :: l) = ((mapT lv iv s x).1 :: (mapL lv iv (mapT lv iv s x).2 l).1, (mapL lv iv (mapT lv iv s x).2 l).2) := by simp only [mapL]
theorem mapL_nil {σ : Type} (lv : σ → Int → S29 × σ) (iv : Int → List S29 → S29) (s : σ) : mapL lv iv s [] = ([], s) := by simp only [mapL]
mutual
/-- All leaves of a gate. -/
def lfT (Q : Int → Prop) : S29 → Prop
  | ⟨a, _, l⟩ => (l = [] → Q a) ∧ lfL Q l
def lfL (Q : Int → Prop) : List S29 → Prop
  | [] => True
  | x :: l => lfT Q x ∧ lfL Q l
end
theorem lfT_parts (Q : Int → Prop) (x : S29) : lfT Q x = ((x.f2 = [] → Q x.f0) ∧ lfL Q x.f2) := by cases x; simp only [lfT]
theorem lfL_cons (Q : Int → Prop) (x : S29) (l : List S29) : lfL Q (x :: l) = (lfT Q x ∧ lfL Q l) := by simp only [lfL]
mutual
theorem lfT_all : ∀ x : S29, lfT (fun _ => True) x
  | ⟨_, _, l⟩ => by simp only [lfT]; exact ⟨fun _ => trivial, lfL_all l⟩
theorem lfL_all : ∀ l : List S29, lfL (fun _ => True) l
  | [] => by simp only [lfL]
  | x :: l => by simp only [lfL]; exact ⟨lfT_all x, lfL_all l⟩
end
theorem mapB_ev {σ : Type} {leafF : Nat → σ → Int → Option (S29 × σ)} {innerF : Nat → Int → List S29 → Option S29} {lv : σ → Int → S29 × σ} {iv : Int → List S29 → S29} {Q : Int → Prop} {J : σ → Prop} (hl : ∀ s h, Q h → J s → Ev (fun k => leafF k s h) (lv s h) ∧ J (lv s h).2) (hi : ∀ n l, Ev (fun k => innerF k n l) (iv n l)) :
    ∀ (n : Nat) (x : S29), mT x ≤ n → n ≤ 1048576 → lfT Q x → ∀ s, J s → Ev (fun k => mapB.f leafF innerF k s x) (mapT lv iv s x) ∧ J (mapT lv iv s x).2 := by
  intro n
  induction n with
  | zero =>
    intro x hx hn hq s hj
    have hk := mT_kids x
    have hz : x.f2 = [] := by
      cases e : x.f2 with
      | nil => rfl
      | cons y r => rw [e, mL_cons] at hk; omega
    rw [lfT_parts] at hq
    obtain ⟨h1, h2⟩ := hl s x.f0 (hq.1 hz) hj
    rw [mapT_parts, hz]
    refine ⟨Ev.step (f := fun k => leafF k s x.f0) (fun k => ?_) h1, h2⟩
    simp only [mapB.f]
    rw [hz, if_pos (by rfl)]
  | succ n ih =>
    intro x hx hn hq s hj
    have hk := mT_kids x
    rw [lfT_parts] at hq
    cases e : x.f2 with
    | nil =>
      obtain ⟨h1, h2⟩ := hl s x.f0 (hq.1 e) hj
      rw [mapT_parts, e]
      refine ⟨Ev.step (f := fun k => leafF k s x.f0) (fun k => ?_) h1, h2⟩
      simp only [mapB.f]
      rw [e, if_pos (by rfl)]
    | cons y0 r0 =>
      have key : ∀ (r pre out : List S29) (s : σ), pre ++ r = x.f2 → out.length = pre.length → lfL Q r → J s → Ev (fun k => mapB.l0 leafF innerF k s x.f2 x.f1 out (pre.length : Int)) (iv x.f1 (out ++ (mapL lv iv s r).1), (mapL lv iv s r).2) ∧ J (mapL lv iv s r).2 := by
        intro r
        induction r with
        | nil =>
          intro pre out s hp ho hq hj
          rw [List.append_nil] at hp
          rw [mapL_nil, List.append_nil]
          refine ⟨Ev.step (f := fun k => (innerF k x.f1 out).bind fun y => some (y, s)) (fun k => ?_) (Ev.bind (hi _ _) (Ev.now _)), hj⟩
          simp only [mapB.l0]
          rw [if_neg (by rw [← hp]; omega)]
        | cons z r ihr =>
          intro pre out s hp ho hq hj
          rw [lfL_cons] at hq
          have hsz : mL x.f2 = mL (pre ++ z :: r) := by rw [hp]
          have hml : ∀ p q : List S29, mL (p ++ q) = mL p + mL q := by
            intro p q
            induction p with
            | nil => simp [mL]
            | cons u p ihp => rw [List.cons_append, mL_cons, mL_cons, ihp]; omega
          rw [hml, mL_cons] at hsz
          have hlp := mL_len pre
          obtain ⟨e1, j1⟩ := ih z (by omega) (by omega) hq.1 s hj
          obtain ⟨e2, j2⟩ := ihr (pre ++ [z]) (out ++ [(mapT lv iv s z).1]) (mapT lv iv s z).2 (by rw [← hp, List.append_assoc]; rfl) (by rw [List.length_append, List.length_append, ho]; rfl) hq.2 j1
          rw [mapL_cons]
          refine ⟨Ev.step (f := fun k => (mapB.f leafF innerF k s z).bind fun t => mapB.l0 leafF innerF k t.2 x.f2 x.f1 (out ++ [t.1]) ((pre.length + 1 : Nat) : Int)) (fun k => ?_) (Ev.bind e1 ?_), j2⟩
          · simp only [mapB.l0]
            have hlen : x.f2.length = pre.length + (r.length + 1) := by rw [← hp, List.length_append, List.length_cons]
            rw [if_pos (by omega), if_pos (by omega), show rd_T29 x.f2 (pre.length : Int) = z by rw [← hp]; exact rdT_mid pre r z, wr (x := (pre.length : Int) + 1) (by omega) (by omega)]
            simp only [if_pos (show out.length < 1048576 by omega)]
            rfl
          · rw [List.length_append, List.length_singleton, List.append_assoc] at e2
            exact e2
      rw [mapT_parts, e]
      obtain ⟨k1, k2⟩ := key (y0 :: r0) [] [] s (by rw [e]; rfl) rfl (by rw [← e]; exact hq.2) hj
      rw [List.nil_append] at k1
      refine ⟨Ev.step (f := fun k => mapB.l0 leafF innerF k s x.f2 x.f1 [] 0) (fun k => ?_) k1, k2⟩
      simp only [mapB.f]
      rw [if_neg (by rw [e, List.length_cons]; omega)]
def leafV (_ : Unit) (h : Int) : S29 × Unit := (⟨h, 0, []⟩, ())
end Go.Proofs.Ytjnobnmjhpmpfaa.P

namespace Go.Proofs.Ytjnobnmjhpmpfaa.P
open Go.RowKit Go.Proofs.YtjnobnmjhpmpfaaW.PrintWords Go.Proofs.YtjnobnmjhpmpfaaW.PrintLast Go.Proofs.YtjnobnmjhpmpfaaW.PrintMore
attribute [local go_sem] max2_int min2_int max_two min_two max_three min_three max_four min_four
set_option linter.unusedVariables false
set_option linter.unusedSimpArgs false

/-! ### spec_l02Leaves: function 59 (by hand) -/
end Go.Proofs.Ytjnobnmjhpmpfaa.P

namespace Go.Proofs.Ytjnobnmjhpmpfaa.P
open Go.RowKit Go.Proofs.YtjnobnmjhpmpfaaW.PrintWords Go.Proofs.YtjnobnmjhpmpfaaW.PrintLast Go.Proofs.YtjnobnmjhpmpfaaW.PrintMore
attribute [local go_sem] max2_int min2_int max_two min_two max_three min_three max_four min_four
set_option linter.unusedVariables false
set_option linter.unusedSimpArgs false

/-! ### spec_LeavesOf: function 25 (by hand) -/
end Go.Proofs.Ytjnobnmjhpmpfaa.P

namespace Go.Proofs.Ytjnobnmjhpmpfaa.P
open Go.RowKit Go.Proofs.YtjnobnmjhpmpfaaW.PrintWords Go.Proofs.YtjnobnmjhpmpfaaW.PrintLast Go.Proofs.YtjnobnmjhpmpfaaW.PrintMore
attribute [local go_sem] max2_int min2_int max_two min_two max_three min_three max_four min_four
set_option linter.unusedVariables false
set_option linter.unusedSimpArgs false

end Go.Proofs.Ytjnobnmjhpmpfaa.P

namespace Go.Proofs.Ytjnobnmjhpmpfaa.P
open Go.RowKit Go.Proofs.YtjnobnmjhpmpfaaW.PrintWords Go.Proofs.YtjnobnmjhpmpfaaW.PrintLast Go.Proofs.YtjnobnmjhpmpfaaW.PrintMore
attribute [local go_sem] max2_int min2_int max_two min_two max_three min_three max_four min_four
set_option linter.unusedVariables false
set_option linter.unusedSimpArgs false

/-! ### impl_LeavesOf: function 26 (by hand) -/
end Go.Proofs.Ytjnobnmjhpmpfaa.P

namespace Go.Proofs.Ytjnobnmjhpmpfaa.P
open Go.RowKit Go.Proofs.YtjnobnmjhpmpfaaW.PrintWords Go.Proofs.YtjnobnmjhpmpfaaW.PrintLast Go.Proofs.YtjnobnmjhpmpfaaW.PrintMore
attribute [local go_sem] max2_int min2_int max_two min_two max_three min_three max_four min_four
set_option linter.unusedVariables false
set_option linter.unusedSimpArgs false

def nodeV (b : Int) (l : List S29) : S29 := ⟨-1, b, l⟩
theorem okT_parts {h : Int} {x : S29} (e : okT h x = true) : (1 ≤ h ∧ h ≤ 7) ∧ 1 + mT x ≤ 60 ∧ fT h x = true := by
  unfold okT at e
  simp only [Bool.and_eq_true, decide_eq_true_eq] at e
  exact ⟨e.1, e.2.1, e.2.2.2⟩
end Go.Proofs.Ytjnobnmjhpmpfaa.P

namespace Go.Proofs.Ytjnobnmjhpmpfaa.P
open Go.RowKit Go.Proofs.YtjnobnmjhpmpfaaW.PrintWords Go.Proofs.YtjnobnmjhpmpfaaW.PrintLast Go.Proofs.YtjnobnmjhpmpfaaW.PrintMore
attribute [local go_sem] max2_int min2_int max_two min_two max_three min_three max_four min_four
set_option linter.unusedVariables false
set_option linter.unusedSimpArgs false

/-! ### spec_l01Before: function 93 -/
end Go.Proofs.Ytjnobnmjhpmpfaa.P

namespace Go.Proofs.Ytjnobnmjhpmpfaa.P
open Go.RowKit Go.Proofs.YtjnobnmjhpmpfaaW.PrintWords Go.Proofs.YtjnobnmjhpmpfaaW.PrintLast Go.Proofs.YtjnobnmjhpmpfaaW.PrintMore
attribute [local go_sem] max2_int min2_int max_two min_two max_three min_three max_four min_four
set_option linter.unusedVariables false
set_option linter.unusedSimpArgs false

/-! ### spec_l01Bits: function 102 -/
end Go.Proofs.Ytjnobnmjhpmpfaa.P

namespace Go.Proofs.Ytjnobnmjhpmpfaa.P
open Go.RowKit Go.Proofs.YtjnobnmjhpmpfaaW.PrintWords Go.Proofs.YtjnobnmjhpmpfaaW.PrintLast Go.Proofs.YtjnobnmjhpmpfaaW.PrintMore
attribute [local go_sem] max2_int min2_int max_two min_two max_three min_three max_four min_four
set_option linter.unusedVariables false
set_option linter.unusedSimpArgs false

/-! ### spec_l01Within: function 94 -/
end Go.Proofs.Ytjnobnmjhpmpfaa.P

namespace Go.Proofs.Ytjnobnmjhpmpfaa.P
open Go.RowKit Go.Proofs.YtjnobnmjhpmpfaaW.PrintWords Go.Proofs.YtjnobnmjhpmpfaaW.PrintLast Go.Proofs.YtjnobnmjhpmpfaaW.PrintMore
attribute [local go_sem] max2_int min2_int max_two min_two max_three min_three max_four min_four
set_option linter.unusedVariables false
set_option linter.unusedSimpArgs false

/-! ### spec_l01Ok: function 78 -/
end Go.Proofs.Ytjnobnmjhpmpfaa.P

namespace Go.Proofs.Ytjnobnmjhpmpfaa.P
open Go.RowKit Go.Proofs.YtjnobnmjhpmpfaaW.PrintWords Go.Proofs.YtjnobnmjhpmpfaaW.PrintLast Go.Proofs.YtjnobnmjhpmpfaaW.PrintMore
attribute [local go_sem] max2_int min2_int max_two min_two max_three min_three max_four min_four
set_option linter.unusedVariables false
set_option linter.unusedSimpArgs false

/-! ### spec_GateOfFamily: function 38 (by hand) -/
end Go.Proofs.Ytjnobnmjhpmpfaa.P

namespace Go.Proofs.Ytjnobnmjhpmpfaa.P
open Go.RowKit Go.Proofs.YtjnobnmjhpmpfaaW.PrintWords Go.Proofs.YtjnobnmjhpmpfaaW.PrintLast Go.Proofs.YtjnobnmjhpmpfaaW.PrintMore
attribute [local go_sem] max2_int min2_int max_two min_two max_three min_three max_four min_four
set_option linter.unusedVariables false
set_option linter.unusedSimpArgs false

/-! ### impl_leaves: function 65 -/
end Go.Proofs.Ytjnobnmjhpmpfaa.P

namespace Go.Proofs.Ytjnobnmjhpmpfaa.P
open Go.RowKit Go.Proofs.YtjnobnmjhpmpfaaW.PrintWords Go.Proofs.YtjnobnmjhpmpfaaW.PrintLast Go.Proofs.YtjnobnmjhpmpfaaW.PrintMore
attribute [local go_sem] max2_int min2_int max_two min_two max_three min_three max_four min_four
set_option linter.unusedVariables false
set_option linter.unusedSimpArgs false

/-! ### cmp_isNaN_int64: function 104 -/
end Go.Proofs.Ytjnobnmjhpmpfaa.P

namespace Go.Proofs.Ytjnobnmjhpmpfaa.P
open Go.RowKit Go.Proofs.YtjnobnmjhpmpfaaW.PrintWords Go.Proofs.YtjnobnmjhpmpfaaW.PrintLast Go.Proofs.YtjnobnmjhpmpfaaW.PrintMore
attribute [local go_sem] max2_int min2_int max_two min_two max_three min_three max_four min_four
set_option linter.unusedVariables false
set_option linter.unusedSimpArgs false

/-! ### cmp_Compare_int64: function 103 -/
end Go.Proofs.Ytjnobnmjhpmpfaa.P

namespace Go.Proofs.Ytjnobnmjhpmpfaa.P
open Go.RowKit Go.Proofs.YtjnobnmjhpmpfaaW.PrintWords Go.Proofs.YtjnobnmjhpmpfaaW.PrintLast Go.Proofs.YtjnobnmjhpmpfaaW.PrintMore
attribute [local go_sem] max2_int min2_int max_two min_two max_three min_three max_four min_four
set_option linter.unusedVariables false
set_option linter.unusedSimpArgs false

/-! ### slices_Compare_int64_int64: function 96 -/
end Go.Proofs.Ytjnobnmjhpmpfaa.P

namespace Go.Proofs.Ytjnobnmjhpmpfaa.P
open Go.RowKit Go.Proofs.YtjnobnmjhpmpfaaW.PrintWords Go.Proofs.YtjnobnmjhpmpfaaW.PrintLast Go.Proofs.YtjnobnmjhpmpfaaW.PrintMore
attribute [local go_sem] max2_int min2_int max_two min_two max_three min_three max_four min_four
set_option linter.unusedVariables false
set_option linter.unusedSimpArgs false

/-! ### impl_crowdOf: function 97 -/
end Go.Proofs.Ytjnobnmjhpmpfaa.P

namespace Go.Proofs.Ytjnobnmjhpmpfaa.P
open Go.RowKit Go.Proofs.YtjnobnmjhpmpfaaW.PrintWords Go.Proofs.YtjnobnmjhpmpfaaW.PrintLast Go.Proofs.YtjnobnmjhpmpfaaW.PrintMore
attribute [local go_sem] max2_int min2_int max_two min_two max_three min_three max_four min_four
set_option linter.unusedVariables false
set_option linter.unusedSimpArgs false

/-! ### impl_crowd_contains: function 98 -/
end Go.Proofs.Ytjnobnmjhpmpfaa.P

namespace Go.Proofs.Ytjnobnmjhpmpfaa.P
open Go.RowKit Go.Proofs.YtjnobnmjhpmpfaaW.PrintWords Go.Proofs.YtjnobnmjhpmpfaaW.PrintLast Go.Proofs.YtjnobnmjhpmpfaaW.PrintMore
attribute [local go_sem] max2_int min2_int max_two min_two max_three min_three max_four min_four
set_option linter.unusedVariables false
set_option linter.unusedSimpArgs false

/-! ### impl_ValidFamily: function 80 -/
end Go.Proofs.Ytjnobnmjhpmpfaa.P

namespace Go.Proofs.Ytjnobnmjhpmpfaa.P
open Go.RowKit Go.Proofs.YtjnobnmjhpmpfaaW.PrintWords Go.Proofs.YtjnobnmjhpmpfaaW.PrintLast Go.Proofs.YtjnobnmjhpmpfaaW.PrintMore
attribute [local go_sem] max2_int min2_int max_two min_two max_three min_three max_four min_four
set_option linter.unusedVariables false
set_option linter.unusedSimpArgs false

end Go.Proofs.Ytjnobnmjhpmpfaa.P

namespace Go.Proofs.Ytjnobnmjhpmpfaa.P
open Go.RowKit Go.Proofs.YtjnobnmjhpmpfaaW.PrintWords Go.Proofs.YtjnobnmjhpmpfaaW.PrintLast Go.Proofs.YtjnobnmjhpmpfaaW.PrintMore
attribute [local go_sem] max2_int min2_int max_two min_two max_three min_three max_four min_four
set_option linter.unusedVariables false
set_option linter.unusedSimpArgs false

/-! ### impl_GateOfFamily: function 40 (by hand) -/
end Go.Proofs.Ytjnobnmjhpmpfaa.P

namespace Go.Proofs.Ytjnobnmjhpmpfaa.P
open Go.RowKit Go.Proofs.YtjnobnmjhpmpfaaW.PrintWords Go.Proofs.YtjnobnmjhpmpfaaW.PrintLast Go.Proofs.YtjnobnmjhpmpfaaW.PrintMore
attribute [local go_sem] max2_int min2_int max_two min_two max_three min_three max_four min_four
set_option linter.unusedVariables false
set_option linter.unusedSimpArgs false

end Go.Proofs.Ytjnobnmjhpmpfaa.P

namespace Go.Proofs.Ytjnobnmjhpmpfaa.P
open Go.RowKit Go.Proofs.YtjnobnmjhpmpfaaW.PrintWords Go.Proofs.YtjnobnmjhpmpfaaW.PrintLast Go.Proofs.YtjnobnmjhpmpfaaW.PrintMore
attribute [local go_sem] max2_int min2_int max_two min_two max_three min_three max_four min_four
set_option linter.unusedVariables false
set_option linter.unusedSimpArgs false

end Go.Proofs.Ytjnobnmjhpmpfaa.P

namespace Go.Proofs.Ytjnobnmjhpmpfaa.P
open Go.RowKit Go.Proofs.YtjnobnmjhpmpfaaW.PrintWords Go.Proofs.YtjnobnmjhpmpfaaW.PrintLast Go.Proofs.YtjnobnmjhpmpfaaW.PrintMore
attribute [local go_sem] max2_int min2_int max_two min_two max_three min_three max_four min_four
set_option linter.unusedVariables false
set_option linter.unusedSimpArgs false

end Go.Proofs.Ytjnobnmjhpmpfaa.P

namespace Go.Proofs.Ytjnobnmjhpmpfaa.P
open Go.RowKit Go.Proofs.YtjnobnmjhpmpfaaW.PrintWords Go.Proofs.YtjnobnmjhpmpfaaW.PrintLast Go.Proofs.YtjnobnmjhpmpfaaW.PrintMore
attribute [local go_sem] max2_int min2_int max_two min_two max_three min_three max_four min_four
set_option linter.unusedVariables false
set_option linter.unusedSimpArgs false

end Go.Proofs.Ytjnobnmjhpmpfaa.P

namespace Go.Proofs.Ytjnobnmjhpmpfaa.P
open Go.RowKit Go.Proofs.YtjnobnmjhpmpfaaW.PrintWords Go.Proofs.YtjnobnmjhpmpfaaW.PrintLast Go.Proofs.YtjnobnmjhpmpfaaW.PrintMore
attribute [local go_sem] max2_int min2_int max_two min_two max_three min_three max_four min_four
set_option linter.unusedVariables false
set_option linter.unusedSimpArgs false

theorem mL_app (p q : List S29) : mL (p ++ q) = mL p + mL q := by
  induction p with
  | nil => simp [mL]
  | cons u p ihp => rw [List.cons_append, mL_cons, mL_cons, ihp]; omega
end Go.Proofs.Ytjnobnmjhpmpfaa.P

namespace Go.Proofs.Ytjnobnmjhpmpfaa.P
open Go.RowKit Go.Proofs.YtjnobnmjhpmpfaaW.PrintWords Go.Proofs.YtjnobnmjhpmpfaaW.PrintLast Go.Proofs.YtjnobnmjhpmpfaaW.PrintMore
attribute [local go_sem] max2_int min2_int max_two min_two max_three min_three max_four min_four
set_option linter.unusedVariables false
set_option linter.unusedSimpArgs false

theorem fT_leafI {h : Int} {x : S29} (hf : fT h x = true) (e : x.f2 = []) : x.f1 = 0 ∧ 0 ≤ x.f0 ∧ x.f0 ≤ h - 1 := by
  rw [fT_parts, e] at hf
  simp only [List.isEmpty_nil, if_true, Bool.and_eq_true, decide_eq_true_eq] at hf
  exact ⟨hf.1, hf.2.1, hf.2.2⟩
theorem fT_innerI {h : Int} {x : S29} (hf : fT h x = true) (hne : x.f2 ≠ []) : x.f0 = -1 ∧ fL h x.f2 = true := by
  rw [fT_parts] at hf
  have : x.f2.isEmpty = false := by cases e : x.f2 with
    | nil => exact absurd e hne
    | cons _ _ => rfl
  rw [this] at hf
  simp only [Bool.false_eq_true, if_false, Bool.and_eq_true, decide_eq_true_eq] at hf
  exact ⟨hf.2.1, hf.1⟩
theorem fL_consI {h : Int} {x : S29} {l : List S29} (e : fL h (x :: l) = true) : fT h x = true ∧ fL h l = true := by
  simp only [fL, Bool.and_eq_true] at e
  exact e
theorem isE {α : Type} {l : List α} (h : l ≠ []) : l.isEmpty = false := by
  cases l with
  | nil => exact absurd rfl h
  | cons _ _ => rfl
/-- A right gate that is copied is itself. -/
theorem copy_same (h : Int) : ∀ (n : Nat), (∀ x : S29, mT x ≤ n → fT h x = true → (mapT leafV nodeV () x).1 = x) ∧ (∀ l : List S29, mL l ≤ n → fL h l = true → (mapL leafV nodeV () l).1 = l) := by
  have leaf : ∀ x : S29, x.f2 = [] → fT h x = true → (mapT leafV nodeV () x).1 = x := by
    intro x e hf
    have h1 := (fT_leafI hf e).1
    rw [mapT_parts, e]
    cases x with
    | mk a b l =>
      dsimp only at e h1
      subst e h1
      rfl
  intro n
  induction n with
  | zero =>
    refine ⟨fun x hx hf => ?_, fun l hl hf => ?_⟩
    · have hk := mT_kids x
      cases e : x.f2 with
      | nil => exact leaf x e hf
      | cons y r => rw [e, mL_cons] at hk; omega
    · cases l with
      | nil => rw [mapL_nil]
      | cons y r => rw [mL_cons] at hl; omega
  | succ n ih =>
    have hL : ∀ l : List S29, mL l ≤ n + 1 → fL h l = true → (mapL leafV nodeV () l).1 = l := by
      intro l
      induction l with
      | nil => intro _ _; rw [mapL_nil]
      | cons y r ihr =>
        intro hl hf
        rw [mL_cons] at hl
        obtain ⟨h1, h2⟩ := fL_consI hf
        rw [mapL_cons]
        show (mapT leafV nodeV () y).1 :: (mapL leafV nodeV () r).1 = _
        rw [ih.1 y (by omega) h1, ihr (by omega) h2]
    refine ⟨fun x hx hf => ?_, hL⟩
    have hk := mT_kids x
    by_cases e : x.f2 = []
    · exact leaf x e hf
    · obtain ⟨h1, h2⟩ := fT_innerI hf e
      rw [mapT_parts, isE e]
      simp only [Bool.false_eq_true, if_false]
      rw [hL x.f2 (by omega) h2, nodeV, ← h1]
      cases x
      rfl
theorem spec_l02Own_ev : ∀ (n : Nat) (x : S29), mT x ≤ n → n ≤ 1048576 → Ev (fun k => spec_l02Own.f k x) x := by
  intro n
  induction n using Nat.strongRecOn with
  | _ n ih =>
    intro x hx hn
    have hk := mT_kids x
    have key : ∀ (r pre : List S29), pre ++ r = x.f2 → Ev (fun k => spec_l02Own.l0 k x pre (pre.length : Int)) ⟨x.f0, x.f1, x.f2⟩ := by
      intro r
      induction r with
      | nil =>
        intro pre hp
        rw [List.append_nil] at hp
        refine Ev.step (f := fun _ => some ⟨x.f0, x.f1, x.f2⟩) (fun k => ?_) (Ev.now _)
        simp only [spec_l02Own.l0]
        rw [if_neg (by rw [← hp]; omega), hp]
      | cons z r ihr =>
        intro pre hp
        have hsz : mL x.f2 = mL (pre ++ z :: r) := by rw [hp]
        rw [mL_app, mL_cons] at hsz
        have hlp := mL_len pre
        have hlen : x.f2.length = pre.length + (r.length + 1) := by rw [← hp, List.length_append, List.length_cons]
        have e1 := ih (mT z) (by omega) z (Nat.le_refl _) (by omega)
        have e2 := ihr (pre ++ [z]) (by rw [← hp, List.append_assoc]; rfl)
        rw [List.length_append, List.length_singleton] at e2
        refine Ev.step (f := fun k => (spec_l02Own.f k z).bind fun t => spec_l02Own.l0 k x (pre ++ [t]) ((pre.length + 1 : Nat) : Int)) (fun k => ?_) (Ev.bind e1 e2)
        simp only [spec_l02Own.l0]
        rw [if_pos (by omega), if_pos (by omega), show rd_T29 x.f2 (pre.length : Int) = z by rw [← hp]; exact rdT_mid pre r z, wr (x := (pre.length : Int) + 1) (by omega) (by omega)]
        simp only [if_pos (show pre.length < 1048576 by omega)]
        rfl
    have k1 := key x.f2 [] rfl
    rw [show (⟨x.f0, x.f1, x.f2⟩ : S29) = x by cases x; rfl] at k1
    refine Ev.step (f := fun k => spec_l02Own.l0 k x [] 0) (fun k => ?_) k1
    simp only [spec_l02Own.f]
def putV (h0 : Int) (b : S29) (_ : Unit) (h : Int) : S29 × Unit := if h = h0 then (b, ()) else (⟨h, 0, []⟩, ())
def pT (h0 : Int) (b x : S29) : S29 := (mapT (putV h0 b) nodeV () x).1
def pL (h0 : Int) (b : S29) (l : List S29) : List S29 := (mapL (putV h0 b) nodeV () l).1
theorem pL_cons (h0 : Int) (b x : S29) (l : List S29) : pL h0 b (x :: l) = pT h0 b x :: pL h0 b l := by
  unfold pL pT
  rw [mapL_cons]
theorem pL_nil (h0 : Int) (b : S29) : pL h0 b [] = [] := by unfold pL; rw [mapL_nil]
theorem pT_leaf (h0 : Int) (b x : S29) (e : x.f2 = []) : pT h0 b x = if x.f0 = h0 then b else ⟨x.f0, 0, []⟩ := by
  unfold pT
  rw [mapT_parts, e]
  simp only [List.isEmpty_nil, if_true, putV]
  split <;> rfl
theorem pT_inner (h0 : Int) (b x : S29) (e : x.f2 ≠ []) : pT h0 b x = ⟨-1, x.f1, pL h0 b x.f2⟩ := by
  unfold pT pL
  rw [mapT_parts, isE e]
  rfl
theorem put_size (h0 : Int) (b : S29) (hb : 1 + mT b ≤ 60) : ∀ (n : Nat), (∀ x : S29, mT x ≤ n → 1 + mT (pT h0 b x) ≤ 60 * (1 + mT x)) ∧ (∀ l : List S29, mL l ≤ n → mL (pL h0 b l) ≤ 60 * mL l) := by
  have leaf : ∀ x : S29, x.f2 = [] → 1 + mT (pT h0 b x) ≤ 60 * (1 + mT x) := by
    intro x e
    rw [pT_leaf h0 b x e]
    split
    · omega
    · rw [mT_kids]; simp only [mL]; omega
  intro n
  induction n with
  | zero =>
    refine ⟨fun x hx => ?_, fun l hl => ?_⟩
    · have hk := mT_kids x
      cases e : x.f2 with
      | nil => exact leaf x e
      | cons y r => rw [e, mL_cons] at hk; omega
    · cases l with
      | nil => rw [pL_nil]; simp [mL]
      | cons y r => rw [mL_cons] at hl; omega
  | succ n ih =>
    have hL : ∀ l : List S29, mL l ≤ n + 1 → mL (pL h0 b l) ≤ 60 * mL l := by
      intro l
      induction l with
      | nil => intro _; rw [pL_nil]; simp [mL]
      | cons y r ihr =>
        intro hl
        rw [mL_cons] at hl
        rw [pL_cons, mL_cons, mL_cons]
        have h1 := ih.1 y (by omega)
        have h2 := ihr (by omega)
        omega
    refine ⟨fun x hx => ?_, hL⟩
    have hk := mT_kids x
    by_cases e : x.f2 = []
    · exact leaf x e
    · rw [pT_inner h0 b x e, mT_kids]
      have := hL x.f2 (by omega)
      show 1 + mL (pL h0 b x.f2) ≤ _
      omega
/-- What l02Put answers while there is room. -/
def PutOk (m : Nat) (p : S29) (l : Int) (r : S29 × Int) : Prop := -60 ≤ r.2 ∧ r.2 ≤ 60 ∧ ((m : Int) ≤ l → r = (p, l - (m : Int))) ∧ (l < (m : Int) → r.2 < 0)
theorem spec_l02Put_ev (h h0 : Int) (b : S29) (hb : 1 + mT b ≤ 60) : ∀ (n : Nat) (x : S29), mT x ≤ n → n ≤ 60 → fT h x = true → ∀ l : Int, 0 ≤ l → l ≤ 60 → ∃ r, Ev (fun k => spec_l02Put.f k x h0 b l) r ∧ PutOk (1 + mT (pT h0 b x)) (pT h0 b x) l r := by
  intro n
  induction n using Nat.strongRecOn with
  | _ n ih =>
    intro x hx hn hf l hl0 hl1
    have hk := mT_kids x
    have w1 : wrap64 (l - 1) = l - 1 := wr (by omega) (by omega)
    by_cases e : x.f2 = []
    · have h1 := (fT_leafI hf e).1
      have e0 : ((x.f2.length : Nat) : Int) = 0 := by rw [e]; rfl
      by_cases c : x.f0 = h0
      · rw [pT_leaf h0 b x e, if_pos c]
        have wz : wrap64 (l - ((1 + mT b : Nat) : Int)) = l - ((1 + mT b : Nat) : Int) := wr (by omega) (by omega)
        have e1 := spec_l02Size_ev (mT b) b (Nat.le_refl _) (by omega)
        by_cases c2 : l - ((1 + mT b : Nat) : Int) < 0
        · refine ⟨(⟨0, 0, []⟩, l - ((1 + mT b : Nat) : Int)), ?_, by dsimp only; omega, by dsimp only; omega, fun h => by omega, fun h => c2⟩
          refine Ev.step (f := fun k => (spec_l02Size.f k b).bind fun z => if wrap64 (l - z) < 0 then some (⟨0, 0, []⟩, wrap64 (l - z)) else ((spec_l02Own.f k b).bind fun y => some (y, wrap64 (l - z)))) (fun k => ?_) (Ev.bind e1 ?_)
          · simp only [spec_l02Put.f]
            rw [if_pos e0, if_pos c]
          · simp only [wz, if_pos c2]
            exact Ev.now _
        · refine ⟨(b, l - ((1 + mT b : Nat) : Int)), ?_, by dsimp only; omega, by dsimp only; omega, fun h => rfl, fun h => by dsimp only; omega⟩
          refine Ev.step (f := fun k => (spec_l02Size.f k b).bind fun z => if wrap64 (l - z) < 0 then some (⟨0, 0, []⟩, wrap64 (l - z)) else ((spec_l02Own.f k b).bind fun y => some (y, wrap64 (l - z)))) (fun k => ?_) (Ev.bind e1 ?_)
          · simp only [spec_l02Put.f]
            rw [if_pos e0, if_pos c]
          · simp only [wz, if_neg c2]
            exact Ev.bind (spec_l02Own_ev (mT b) b (Nat.le_refl _) (by omega)) (Ev.now _)
      · rw [pT_leaf h0 b x e, if_neg c]
        have hz : mT (⟨x.f0, 0, []⟩ : S29) = 0 := by rw [mT_kids]; simp [mL]
        rw [hz]
        refine ⟨(⟨x.f0, 0, []⟩, l - 1), ?_, by dsimp only; omega, by dsimp only; omega, fun h => by simp, fun h => by dsimp only; omega⟩
        refine Ev.step (f := fun k => spec_l02Put.l0 k x h0 b [] (l - 1) 0) (fun k => ?_) (Ev.step (f := fun _ => some (⟨x.f0, 0, []⟩, l - 1)) (fun k => ?_) (Ev.now _))
        · simp only [spec_l02Put.f]
          rw [if_pos e0, if_neg c, w1]
        · simp only [spec_l02Put.l0]
          rw [if_neg (by omega), h1]
    · obtain ⟨hm1, hfl⟩ := fT_innerI hf e
      have hne : ¬ ((x.f2.length : Nat) : Int) = 0 := fun h => e (List.eq_nil_of_length_eq_zero (by omega))
      rw [pT_inner h0 b x e, mT_kids]
      have key : ∀ (r pre out : List S29) (lq : Int), pre ++ r = x.f2 → out.length = pre.length → fL h r = true → -60 ≤ lq → lq ≤ 60 → ∃ q, Ev (fun k => spec_l02Put.l0 k x h0 b out lq (pre.length : Int)) q ∧ PutOk (mL (pL h0 b r)) ⟨x.f0, x.f1, out ++ pL h0 b r⟩ lq q := by
        intro r
        induction r with
        | nil =>
          intro pre out lq hp ho hfr h1 h2
          rw [List.append_nil] at hp
          rw [pL_nil, List.append_nil]
          refine ⟨(⟨x.f0, x.f1, out⟩, lq), Ev.step (f := fun _ => some (⟨x.f0, x.f1, out⟩, lq)) (fun k => ?_) (Ev.now _), h1, h2, fun h => by simp [mL], fun h => by simp only [mL] at h; exact h⟩
          simp only [spec_l02Put.l0]
          rw [if_neg (by rw [← hp]; omega)]
        | cons z r ihr =>
          intro pre out lq hp ho hfr h1 h2
          obtain ⟨hfz, hfr⟩ := fL_consI hfr
          have hsz : mL x.f2 = mL (pre ++ z :: r) := by rw [hp]
          rw [mL_app, mL_cons] at hsz
          have hlp := mL_len pre
          have hlen : x.f2.length = pre.length + (r.length + 1) := by rw [← hp, List.length_append, List.length_cons]
          rw [pL_cons, mL_cons]
          by_cases c : lq ≥ 0
          · obtain ⟨⟨y1, l1⟩, e1, p1, p2, p3, p4⟩ := ih (mT z) (by omega) z (Nat.le_refl _) (by omega) hfz lq c h2
            dsimp only at p1 p2 p4
            obtain ⟨⟨y2, l2⟩, e2, q1, q2, q3, q4⟩ := ihr (pre ++ [z]) (out ++ [y1]) l1 (by rw [← hp, List.append_assoc]; rfl) (by rw [List.length_append, List.length_append, ho]; rfl) hfr p1 p2
            dsimp only at q1 q2 q4
            rw [List.length_append, List.length_singleton] at e2
            refine ⟨(y2, l2), Ev.step (f := fun k => (spec_l02Put.f k z h0 b lq).bind fun t => spec_l02Put.l0 k x h0 b (out ++ [t.1]) t.2 ((pre.length + 1 : Nat) : Int)) (fun k => ?_) (Ev.bind e1 e2), q1, q2, fun hle => ?_, fun hlt => ?_⟩
            · simp only [spec_l02Put.l0]
              rw [if_pos (by omega), if_pos c, if_pos (by omega), show rd_T29 x.f2 (pre.length : Int) = z by rw [← hp]; exact rdT_mid pre r z, wr (x := (pre.length : Int) + 1) (by omega) (by omega)]
              simp only [if_pos (show out.length < 1048576 by omega)]
              rfl
            · have e3 := p3 (by omega)
              obtain ⟨rfl, rfl⟩ := Prod.mk.inj e3
              rw [q3 (by omega)]
              rw [List.append_assoc]
              refine Prod.ext rfl ?_
              dsimp only
              omega
            · dsimp only
              by_cases c3 : ((1 + mT (pT h0 b z) : Nat) : Int) ≤ lq
              · obtain ⟨rfl, rfl⟩ := Prod.mk.inj (p3 c3)
                exact q4 (by omega)
              · have := p4 (by omega)
                exact q4 (by omega)
          · refine ⟨(⟨x.f0, x.f1, out⟩, lq), Ev.step (f := fun _ => some (⟨x.f0, x.f1, out⟩, lq)) (fun k => ?_) (Ev.now _), h1, h2, fun h => absurd h (by omega), fun h => by dsimp only; omega⟩
            simp only [spec_l02Put.l0]
            rw [if_pos (by omega), if_neg c]
      obtain ⟨⟨y, lq⟩, e1, p1, p2, p3, p4⟩ := key x.f2 [] [] (l - 1) rfl rfl hfl (by omega) (by omega)
      dsimp only at p1 p2 p4
      refine ⟨(y, lq), Ev.step (f := fun k => spec_l02Put.l0 k x h0 b [] (l - 1) 0) (fun k => ?_) e1, p1, p2, fun hle => ?_, fun hlt => p4 (by dsimp only at hlt; omega)⟩
      · simp only [spec_l02Put.f]
        rw [if_neg hne, w1]
      · dsimp only at hle
        rw [p3 (by omega), hm1, List.nil_append]
        refine Prod.ext rfl ?_
        dsimp only
        omega
def endG (h : Int) (p : S29) : Int × Int × List S29 × Int := if okT h p = true then (p.f0, p.f1, p.f2, 0) else (0, 0, [], 3)
theorem eta_g (p : S29) : (⟨p.f0, p.f1, p.f2⟩ : S29) = p := by cases p; rfl
theorem impl_orLimit_evG (h : Int) (p : S29) (hm : mT p ≤ 1048576) : Ev (fun k => impl_orLimit.f k h p.f0 p.f1 p.f2) (endG h p) := by
  unfold impl_orLimit.f endG
  have e1 := impl_ValidGate_ev h p.f0 p.f1 p.f2 (by rw [← mT_kids]; exact hm)
  rw [eta_g] at e1
  refine Ev.bind e1 ?_
  by_cases e : okT h p = true
  · simp only [if_pos e]; exact Ev.now _
  · simp only [if_neg e]; exact Ev.now _
theorem spec_l02Told_evG (h : Int) (p : S29) (hm : mT p ≤ 1048576) : Ev (fun k => spec_l02Told.f k h p.f0 p.f1 p.f2) (endG h p) := by
  unfold spec_l02Told.f endG
  have e1 := spec_l02Ok_ev h ⟨p.f0, p.f1, p.f2⟩ (by rw [eta_g]; exact hm)
  refine Ev.bind e1 ?_
  rw [eta_g]
  by_cases e : okT h p = true
  · simp only [if_pos e]; exact Ev.now _
  · simp only [if_neg e]; exact Ev.now _
def PutRes (h : Int) (x : S29) (h0 : Int) (b : S29) : Int × Int × List S29 × Int := if okT h x = true then (if okT h b = true then (if (0 ≤ h0 ∧ h0 ≤ wrap64 (h - 1)) then endG h (pT h0 b x) else (0, 0, [], 2)) else (0, 0, [], 1)) else (0, 0, [], 1)
theorem put_mT {h : Int} {x b : S29} (h0 : Int) (hx : okT h x = true) (hb : okT h b = true) : mT (pT h0 b x) ≤ 1048576 := by
  have h1 := (okT_parts hx).2.1
  have h2 := (put_size h0 b (okT_parts hb).2.1 (mT x)).1 x (Nat.le_refl _)
  omega
theorem spec_PutGate_ev (h a1 b1 : Int) (l1 : List S29) (h0 a3 b3 : Int) (l3 : List S29) (hm1 : mL l1 ≤ 1048576) (hm3 : mL l3 ≤ 1048576) : Ev (fun k => spec_PutGate.f k h a1 b1 l1 h0 a3 b3 l3) (PutRes h ⟨a1, b1, l1⟩ h0 ⟨a3, b3, l3⟩) := by
  unfold spec_PutGate.f PutRes
  refine Ev.bind (spec_ValidGate_ev h a1 b1 l1 hm1) ?_
  by_cases e : okT h ⟨a1, b1, l1⟩ = true
  · simp only [if_pos e]
    refine Ev.bind (spec_ValidGate_ev h a3 b3 l3 hm3) ?_
    by_cases e' : okT h ⟨a3, b3, l3⟩ = true
    · simp only [if_pos e', spec_l00In_eq, Option.bind_some, decide_eq_true_eq]
      by_cases c : 0 ≤ h0 ∧ h0 ≤ wrap64 (h - 1)
      · simp only [if_pos c]
        obtain ⟨_, hs1, hf1⟩ := okT_parts e
        obtain ⟨⟨y, lq⟩, e1, p1, p2, p3, p4⟩ := spec_l02Put_ev h h0 ⟨a3, b3, l3⟩ (okT_parts e').2.1 (mT ⟨a1, b1, l1⟩) ⟨a1, b1, l1⟩ (Nat.le_refl _) (by omega) hf1 60 (by omega) (by omega)
        refine Ev.bind e1 ?_
        dsimp only at p1 p2 p4
        by_cases c2 : ((1 + mT (pT h0 ⟨a3, b3, l3⟩ ⟨a1, b1, l1⟩) : Nat) : Int) ≤ 60
        · obtain ⟨rfl, rfl⟩ := Prod.mk.inj (p3 c2)
          simp only [if_neg (show ¬ (60 - ((1 + mT (pT h0 ⟨a3, b3, l3⟩ ⟨a1, b1, l1⟩) : Nat) : Int) < 0) by omega)]
          exact spec_l02Told_evG h _ (put_mT h0 e e')
        · have := p4 (by omega)
          simp only [if_pos this]
          have : endG h (pT h0 ⟨a3, b3, l3⟩ ⟨a1, b1, l1⟩) = (0, 0, [], 3) := by
            unfold endG
            rw [if_neg]
            intro h3
            have := (okT_parts h3).2.1
            omega
          rw [this]
          exact Ev.now _
      · simp only [if_neg c]; exact Ev.now _
    · simp only [if_neg e']; exact Ev.now _
  · simp only [if_neg e]; exact Ev.now _
theorem impl_PutGate_ev (h a1 b1 : Int) (l1 : List S29) (h0 a3 b3 : Int) (l3 : List S29) (hm1 : mL l1 ≤ 1048576) (hm3 : mL l3 ≤ 1048576) : Ev (fun k => impl_PutGate.f k h a1 b1 l1 h0 a3 b3 l3) (PutRes h ⟨a1, b1, l1⟩ h0 ⟨a3, b3, l3⟩) := by
  unfold impl_PutGate.f PutRes
  refine Ev.bind (impl_ValidGate_ev h a1 b1 l1 hm1) ?_
  by_cases e : okT h ⟨a1, b1, l1⟩ = true
  · simp only [if_pos e]
    refine Ev.bind (impl_ValidGate_ev h a3 b3 l3 hm3) ?_
    by_cases e' : okT h ⟨a3, b3, l3⟩ = true
    · simp only [if_pos e', impl_within_eq, Option.bind_some, decide_eq_true_eq]
      by_cases c : 0 ≤ h0 ∧ h0 ≤ wrap64 (h - 1)
      · simp only [if_pos c]
        have hc := (mapB_ev (leafF := leafD) (innerF := nodeD) (lv := leafV) (iv := nodeV) (Q := fun _ => True) (J := fun _ => True) (fun s h _ _ => ⟨Ev.now _, trivial⟩) (fun n l => Ev.now _) 1048576 ⟨a3, b3, l3⟩ (by rw [mT_kids]; exact hm3) (Nat.le_refl _) (lfT_all _) () trivial).1
        have hcs := (copy_same h (mT ⟨a3, b3, l3⟩)).1 ⟨a3, b3, l3⟩ (Nat.le_refl _) (okT_parts e').2.2
        have hcs2 : mapT leafV nodeV () ⟨a3, b3, l3⟩ = ((⟨a3, b3, l3⟩ : S29), ()) := Prod.ext hcs rfl
        rw [hcs2] at hc
        have hp := (mapB_ev (leafF := leafP h0 ⟨a3, b3, l3⟩) (innerF := nodeD) (lv := putV h0 ⟨a3, b3, l3⟩) (iv := nodeV) (Q := fun _ => True) (J := fun _ => True) (fun s h' _ _ => ⟨by
          unfold leafP putV
          by_cases c3 : h' = h0
          · simp only [if_pos c3]; exact hc
          · simp only [if_neg c3]; exact Ev.now _, trivial⟩) (fun n l => Ev.now _) 1048576 ⟨a1, b1, l1⟩ (by rw [mT_kids]; exact hm1) (Nat.le_refl _) (lfT_all _) () trivial).1
        refine Ev.bind hp ?_
        exact impl_orLimit_evG h _ (put_mT h0 e e')
      · simp only [if_neg c]; exact Ev.now _
    · simp only [if_neg e']; exact Ev.now _
  · simp only [if_neg e]; exact Ev.now _
theorem endG_size (h : Int) (p : S29) (hm : mT p ≤ 1048576) : mL (endG h p).2.2.1 ≤ 1048576 := by
  unfold endG
  split
  · rw [← mT_kids]; exact hm
  · simp [mL]
theorem PutRes_size (h : Int) (x : S29) (h0 : Int) (b : S29) : mL (PutRes h x h0 b).2.2.1 ≤ 1048576 := by
  unfold PutRes
  split
  · split
    · split
      · exact endG_size h _ (put_mT h0 (by assumption) (by assumption))
      · simp [mL]
    · simp [mL]
  · simp [mL]

end Go.Proofs.Ytjnobnmjhpmpfaa.P
