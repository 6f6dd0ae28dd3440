/- For all matrices the program's StackRows and the reference's answer alike, the arguments stay, and the result is memory of its own. This text: the theorem of the row, and part 3 of what it rests on. -/
import Derived.Test.YtopgelloghblaaaCFnExactStackRowsb
import Derived.Below
import Derived.Carry
import Derived.ChangeArms
import Derived.ChangeOld
import Derived.DataShut
import Derived.Deep.Cut
import Derived.Deep.Slices
import Derived.OpenShut
import Derived.ProofKit
import Derived.Shelf.Abstract
import Derived.ShutString
import Derived.SizedLaws
import Derived.Test.YtopgelloghblaaaRows
import Derived.WalkKit
import Derived.WideShapes
namespace Go.Proofs.Ytopgelloghblaaa.P
open Go.RowKit Go.Proofs.YtopgelloghblaaaW.PrintWords Go.Proofs.YtopgelloghblaaaW.PrintLast Go.Proofs.YtopgelloghblaaaW.PrintMore
attribute [local go_sem] max2_int min2_int max_two min_two max_three min_three max_four min_four
set_option linter.unusedVariables false
set_option linter.unusedSimpArgs false

/-! ### laws_FnExactStackRows: function 7 (the law's walk, by a program of this session) -/
set_option maxHeartbeats 8000000 in
set_option maxRecDepth 100000 in
theorem laws_FnExactStackRows.way0 (k : Nat) (a0_0 : Int) (a0_1 : Int) (A0_2 : Option Addr) (c0_2 : Nat) (l0_2 : List (List Int)) (a1_0 : Int) (a1_1 : Int) (A1_2 : Option Addr) (c1_2 : Nat) (l1_2 : List (List Int)) (s3 : Int) (w : World) (hr0_2 : Kd.C (Kd.slice 2 (Kd.int .i64)) w A0_2 l0_2.length l0_2) (hc0_2 : l0_2.length ≤ c0_2) (hr1_2 : Kd.C (Kd.slice 2 (Kd.int .i64)) w A1_2 l1_2.length l1_2) (hc1_2 : l1_2.length ≤ c1_2) (A4 : laws_szMatrix.f k a0_0 a0_1 l0_2 1048576 = some s3) (t14 : decide (s3 < 0) = true) :
    Calls Try.prog 7 #[.agg #[.int .i64 a0_0, .int .i64 a0_1, .slice A0_2 l0_2.length c0_2], .agg #[.int .i64 a1_0, .int .i64 a1_1, .slice A1_2 l1_2.length c1_2]] w fun e w' => e = .returned (.bool true) ∧ Below w.heap.size w w' := by
  have hu24 := Try.underlying24
  have HR0_2 := Aside0.mk hr0_2
  have HC0_2 := Aside0.mk hc0_2
  clear hr0_2 hc0_2
  have HR1_2 := Aside0.mk hr1_2
  have HC1_2 := Aside0.mk hc1_2
  clear hr1_2 hc1_2
  have HB := Aside0.mk (Below.refl w.heap.size w)
  replace A4 := Aside0.mk A4
  go_enter Try.func7, Try.ntmps7
  go_wp2_with (first | ((with_reducible refine gate_callee (f := 15) rfl ?_); refine goesL_ (some 19) rfl rfl Try.func15 (by kernel_rfl) rfl #[.agg #[.int .i64 a0_0, .int .i64 a0_1, .slice A0_2 l0_2.length c0_2], .int .i64 1048576] rfl (by (try simp only [List.map_toArray, List.map_cons, List.map_nil]); first | done | rfl | (simp only [List.length_drop, List.length_take]; rfl)) ?_; (with_reducible refine (laws_szMatrix.calls k a0_0 a0_1 _ _ l0_2 1048576 s3 _ ?side1 ?side2 A4.out).mono ?_); (case side1 => exact Kd.C_below HR0_2.out (by repeat (first | (with_reducible first | exact HB.out | apply below_alloc | apply pw_below_drewN | apply below_drew1) | exact HB.out))); (case side2 => exact HC0_2.out); rintro e w1 ⟨rfl, hb⟩; refine ⟨_, rfl, ?_⟩; have n1_ := Aside0.mk (blk_below (g := w.heap.size) (o := .cells #[.int .i64 a0_0, .int .i64 a0_1, .slice A0_2 l0_2.length c0_2] 24 (0, 0)) (by repeat (first | exact blk_new_at (by simp) | (with_reducible refine blk_drewN ?_ _) | (with_reducible refine blk_drew ?_) | (with_reducible refine blk_alloc ?_ _))) hb); have n2_ := Aside0.mk (blk_below (g := w.heap.size + 1) (o := .cells #[.int .i64 a1_0, .int .i64 a1_1, .slice A1_2 l1_2.length c1_2] 24 (0, 0)) (by repeat (first | exact blk_new_at (by simp) | (with_reducible refine blk_drewN ?_ _) | (with_reducible refine blk_drew ?_) | (with_reducible refine blk_alloc ?_ _))) hb); have n3_ := Aside0.mk (below_step (by repeat (first | (with_reducible first | exact HB.out | apply below_alloc | apply pw_below_drewN | apply below_drew1) | exact HB.out)) hb); have C5 : Aside0 (w.heap.size + 2 ≤ w1.heap.size) := ⟨by have h_ := hb.size; (try simp at h_); omega⟩; have CC := Aside0.mk C5.out; clear HB; have HX1 := n1_; clear n1_; have HX2 := n2_; clear n2_; have HB := n3_; clear n3_; (try clear hb); have hl6 : w.heap.size < w1.heap.size := blk_lt HX1.out; have hx7 : w1.cell? ⟨w.heap.size, 0, none⟩ = some (.int .i64 a0_0) := (blk_cell HX1.out 0).trans rfl; have hx8 : w1.cell? ⟨w.heap.size, 1, none⟩ = some (.int .i64 a0_1) := (blk_cell HX1.out 1).trans rfl; have hx9 : w1.cell? ⟨w.heap.size, 2, none⟩ = some (.slice A0_2 l0_2.length c0_2) := (blk_cell HX1.out 2).trans rfl; have hl10 : w.heap.size + 1 < w1.heap.size := blk_lt HX2.out; have hx11 : w1.cell? ⟨w.heap.size + 1, 0, none⟩ = some (.int .i64 a1_0) := (blk_cell HX2.out 0).trans rfl; have hx12 : w1.cell? ⟨w.heap.size + 1, 1, none⟩ = some (.int .i64 a1_1) := (blk_cell HX2.out 1).trans rfl; have hx13 : w1.cell? ⟨w.heap.size + 1, 2, none⟩ = some (.slice A1_2 l1_2.length c1_2) := (blk_cell HX2.out 2).trans rfl))
  go_ret
  exact ⟨rfl, by repeat (first | (with_reducible first | exact HB.out | apply below_alloc | apply pw_below_drewN | apply below_drew1) | exact HB.out)⟩
set_option maxHeartbeats 8000000 in
set_option maxRecDepth 100000 in
theorem laws_FnExactStackRows.way1 (k : Nat) (a0_0 : Int) (a0_1 : Int) (A0_2 : Option Addr) (c0_2 : Nat) (l0_2 : List (List Int)) (a1_0 : Int) (a1_1 : Int) (A1_2 : Option Addr) (c1_2 : Nat) (l1_2 : List (List Int)) (s3 : Int) (s15 : Int) (w : World) (hr0_2 : Kd.C (Kd.slice 2 (Kd.int .i64)) w A0_2 l0_2.length l0_2) (hc0_2 : l0_2.length ≤ c0_2) (hr1_2 : Kd.C (Kd.slice 2 (Kd.int .i64)) w A1_2 l1_2.length l1_2) (hc1_2 : l1_2.length ≤ c1_2) (A4 : laws_szMatrix.f k a0_0 a0_1 l0_2 1048576 = some s3) (t14 : decide (s3 < 0) = false) (A16 : laws_szMatrix.f k a1_0 a1_1 l1_2 s3 = some s15) (t26 : decide (s15 < 0) = true) :
    Calls Try.prog 7 #[.agg #[.int .i64 a0_0, .int .i64 a0_1, .slice A0_2 l0_2.length c0_2], .agg #[.int .i64 a1_0, .int .i64 a1_1, .slice A1_2 l1_2.length c1_2]] w fun e w' => e = .returned (.bool true) ∧ Below w.heap.size w w' := by
  have hu24 := Try.underlying24
  have HR0_2 := Aside0.mk hr0_2
  have HC0_2 := Aside0.mk hc0_2
  clear hr0_2 hc0_2
  have HR1_2 := Aside0.mk hr1_2
  have HC1_2 := Aside0.mk hc1_2
  clear hr1_2 hc1_2
  have HB := Aside0.mk (Below.refl w.heap.size w)
  replace A4 := Aside0.mk A4
  replace A16 := Aside0.mk A16
  go_enter Try.func7, Try.ntmps7
  go_wp2_with (first | ((with_reducible refine gate_callee (f := 15) rfl ?_); refine goesL_ (some 19) rfl rfl Try.func15 (by kernel_rfl) rfl #[.agg #[.int .i64 a0_0, .int .i64 a0_1, .slice A0_2 l0_2.length c0_2], .int .i64 1048576] rfl (by (try simp only [List.map_toArray, List.map_cons, List.map_nil]); first | done | rfl | (simp only [List.length_drop, List.length_take]; rfl)) ?_; (with_reducible refine (laws_szMatrix.calls k a0_0 a0_1 _ _ l0_2 1048576 s3 _ ?side1 ?side2 A4.out).mono ?_); (case side1 => exact Kd.C_below HR0_2.out (by repeat (first | (with_reducible first | exact HB.out | apply below_alloc | apply pw_below_drewN | apply below_drew1) | exact HB.out))); (case side2 => exact HC0_2.out); rintro e w1 ⟨rfl, hb⟩; refine ⟨_, rfl, ?_⟩; have n1_ := Aside0.mk (blk_below (g := w.heap.size) (o := .cells #[.int .i64 a0_0, .int .i64 a0_1, .slice A0_2 l0_2.length c0_2] 24 (0, 0)) (by repeat (first | exact blk_new_at (by simp) | (with_reducible refine blk_drewN ?_ _) | (with_reducible refine blk_drew ?_) | (with_reducible refine blk_alloc ?_ _))) hb); have n2_ := Aside0.mk (blk_below (g := w.heap.size + 1) (o := .cells #[.int .i64 a1_0, .int .i64 a1_1, .slice A1_2 l1_2.length c1_2] 24 (0, 0)) (by repeat (first | exact blk_new_at (by simp) | (with_reducible refine blk_drewN ?_ _) | (with_reducible refine blk_drew ?_) | (with_reducible refine blk_alloc ?_ _))) hb); have n3_ := Aside0.mk (below_step (by repeat (first | (with_reducible first | exact HB.out | apply below_alloc | apply pw_below_drewN | apply below_drew1) | exact HB.out)) hb); have C5 : Aside0 (w.heap.size + 2 ≤ w1.heap.size) := ⟨by have h_ := hb.size; (try simp at h_); omega⟩; have CC := Aside0.mk C5.out; clear HB; have HX1 := n1_; clear n1_; have HX2 := n2_; clear n2_; have HB := n3_; clear n3_; (try clear hb); have hl6 : w.heap.size < w1.heap.size := blk_lt HX1.out; have hx7 : w1.cell? ⟨w.heap.size, 0, none⟩ = some (.int .i64 a0_0) := (blk_cell HX1.out 0).trans rfl; have hx8 : w1.cell? ⟨w.heap.size, 1, none⟩ = some (.int .i64 a0_1) := (blk_cell HX1.out 1).trans rfl; have hx9 : w1.cell? ⟨w.heap.size, 2, none⟩ = some (.slice A0_2 l0_2.length c0_2) := (blk_cell HX1.out 2).trans rfl; have hl10 : w.heap.size + 1 < w1.heap.size := blk_lt HX2.out; have hx11 : w1.cell? ⟨w.heap.size + 1, 0, none⟩ = some (.int .i64 a1_0) := (blk_cell HX2.out 0).trans rfl; have hx12 : w1.cell? ⟨w.heap.size + 1, 1, none⟩ = some (.int .i64 a1_1) := (blk_cell HX2.out 1).trans rfl; have hx13 : w1.cell? ⟨w.heap.size + 1, 2, none⟩ = some (.slice A1_2 l1_2.length c1_2) := (blk_cell HX2.out 2).trans rfl) | ((with_reducible refine gate_callee (f := 15) rfl ?_); refine goesL_ (some 24) rfl rfl Try.func15 (by kernel_rfl) rfl #[.agg #[.int .i64 a1_0, .int .i64 a1_1, .slice A1_2 l1_2.length c1_2], .int .i64 s3] rfl (by (try simp only [List.map_toArray, List.map_cons, List.map_nil]); first | done | rfl | (simp only [List.length_drop, List.length_take]; rfl)) ?_; (with_reducible refine (laws_szMatrix.calls k a1_0 a1_1 _ _ l1_2 s3 s15 _ ?side1 ?side2 A16.out).mono ?_); (case side1 => exact Kd.C_below HR1_2.out (by repeat (first | (with_reducible first | exact HB.out | apply below_alloc | apply pw_below_drewN | apply below_drew1) | exact HB.out))); (case side2 => exact HC1_2.out); rintro e w2 ⟨rfl, hb⟩; refine ⟨_, rfl, ?_⟩; have n1_ := Aside0.mk (blk_below (g := w.heap.size) (o := .cells #[.int .i64 a0_0, .int .i64 a0_1, .slice A0_2 l0_2.length c0_2] 24 (0, 0)) (by (with_reducible repeat (first | refine blk_drewN ?_ _ | refine blk_drew ?_ | refine blk_alloc ?_ _)); exact HX1.out) hb); have n2_ := Aside0.mk (blk_below (g := w.heap.size + 1) (o := .cells #[.int .i64 a1_0, .int .i64 a1_1, .slice A1_2 l1_2.length c1_2] 24 (0, 0)) (by (with_reducible repeat (first | refine blk_drewN ?_ _ | refine blk_drew ?_ | refine blk_alloc ?_ _)); exact HX2.out) hb); have n3_ := Aside0.mk (below_step (by repeat (first | (with_reducible first | exact HB.out | apply below_alloc | apply pw_below_drewN | apply below_drew1) | exact HB.out)) hb); have C17 : Aside0 (w1.heap.size ≤ w2.heap.size) := ⟨by have h_ := hb.size; (try simp at h_); omega⟩; have CCn_ := Aside0.mk (And.intro CC.out C17.out); clear CC; have CC := CCn_; clear CCn_; clear HX1; clear HX2; clear HB; clear hl6; clear hx7; clear hx8; clear hx9; clear hl10; clear hx11; clear hx12; clear hx13; have HX1 := n1_; clear n1_; have HX2 := n2_; clear n2_; have HB := n3_; clear n3_; (try clear hb); have hl18 : w.heap.size < w2.heap.size := blk_lt HX1.out; have hx19 : w2.cell? ⟨w.heap.size, 0, none⟩ = some (.int .i64 a0_0) := (blk_cell HX1.out 0).trans rfl; have hx20 : w2.cell? ⟨w.heap.size, 1, none⟩ = some (.int .i64 a0_1) := (blk_cell HX1.out 1).trans rfl; have hx21 : w2.cell? ⟨w.heap.size, 2, none⟩ = some (.slice A0_2 l0_2.length c0_2) := (blk_cell HX1.out 2).trans rfl; have hl22 : w.heap.size + 1 < w2.heap.size := blk_lt HX2.out; have hx23 : w2.cell? ⟨w.heap.size + 1, 0, none⟩ = some (.int .i64 a1_0) := (blk_cell HX2.out 0).trans rfl; have hx24 : w2.cell? ⟨w.heap.size + 1, 1, none⟩ = some (.int .i64 a1_1) := (blk_cell HX2.out 1).trans rfl; have hx25 : w2.cell? ⟨w.heap.size + 1, 2, none⟩ = some (.slice A1_2 l1_2.length c1_2) := (blk_cell HX2.out 2).trans rfl))
  go_ret
  exact ⟨rfl, by repeat (first | (with_reducible first | exact HB.out | apply below_alloc | apply pw_below_drewN | apply below_drew1) | exact HB.out)⟩
set_option maxHeartbeats 8000000 in
set_option maxRecDepth 100000 in
theorem laws_FnExactStackRows.way2 (k : Nat) (a0_0 : Int) (a0_1 : Int) (A0_2 : Option Addr) (c0_2 : Nat) (l0_2 : List (List Int)) (a1_0 : Int) (a1_1 : Int) (A1_2 : Option Addr) (c1_2 : Nat) (l1_2 : List (List Int)) (s3 : Int) (s15 : Int) (r51 : Int) (r52 : Int) (r53 : List (List Int)) (r54 : Int) (m280 : Int) (ys281 : List (List Int)) (m308 : Int) (ys309 : List (List Int)) (m363 : Int) (ys364 : List (List Int)) (w : World) (hr0_2 : Kd.C (Kd.slice 2 (Kd.int .i64)) w A0_2 l0_2.length l0_2) (hc0_2 : l0_2.length ≤ c0_2) (hr1_2 : Kd.C (Kd.slice 2 (Kd.int .i64)) w A1_2 l1_2.length l1_2) (hc1_2 : l1_2.length ≤ c1_2) (A4 : laws_szMatrix.f k a0_0 a0_1 l0_2 1048576 = some s3) (t14 : decide (s3 < 0) = false) (A16 : laws_szMatrix.f k a1_0 a1_1 l1_2 s3 = some s15) (t26 : decide (s15 < 0) = false) (A27 : laws_toMatrix.f k a0_0 a0_1 l0_2 = some (a0_0, a0_1, l0_2)) (A39 : laws_toMatrix.f k a1_0 a1_1 l1_2 = some (a1_0, a1_1, l1_2)) (A55 : spec_StackRows.f k a0_0 a0_1 l0_2 a1_0 a1_1 l1_2 = some (r51, r52, r53, r54)) (A83 : laws_toMatrix.f k a0_0 a0_1 l0_2 = some (a0_0, a0_1, l0_2)) (A100 : laws_toMatrix.f k a1_0 a1_1 l1_2 = some (a1_0, a1_1, l1_2)) (A121 : impl_StackRows.f k a0_0 a0_1 l0_2 a1_0 a1_1 l1_2 = some (r51, r52, r53, r54)) (A146 : laws_eqMatrix.f k r51 r52 r53 r51 r52 r53 = some true) (A172 : laws_toMatrix.f k a0_0 a0_1 l0_2 = some (a0_0, a0_1, l0_2)) (A200 : laws_eqMatrix.f k a0_0 a0_1 l0_2 a0_0 a0_1 l0_2 = some true) (A226 : laws_toMatrix.f k a1_0 a1_1 l1_2 = some (a1_0, a1_1, l1_2)) (A254 : laws_eqMatrix.f k a1_0 a1_1 l1_2 a1_0 a1_1 l1_2 = some true) (A282 : laws_markMatrix.f k a0_0 a0_1 l0_2 1 = some (m280, ys281)) (A310 : laws_markMatrix.f k a1_0 a1_1 l1_2 m280 = some (m308, ys309)) (t336 : decide (m308 < 0) = false) (A337 : laws_eqMatrix.f k r51 r52 r53 r51 r52 r53 = some true) (A365 : laws_markMatrix.f k r51 r52 r53 1 = some (m363, ys364)) (A391 : laws_heldMatrix.f k r51 r52 ys364 1 = some m363) (t417 : decide (m363 < 0) = false) (A418 : laws_toMatrix.f k a0_0 a0_1 l0_2 = some (a0_0, a0_1, l0_2)) (A446 : laws_toMatrix.f k a1_0 a1_1 l1_2 = some (a1_0, a1_1, l1_2)) (A474 : impl_StackRows.f k a0_0 a0_1 l0_2 a1_0 a1_1 l1_2 = some (r51, r52, r53, r54)) (A534 : laws_eqMatrix.f k r51 r52 r53 r51 r52 r53 = some true) (A564 : laws_heldMatrix.f k r51 r52 ys364 1 = some m363) (t594 : decide (m363 < 0) = false) :
    Calls Try.prog 7 #[.agg #[.int .i64 a0_0, .int .i64 a0_1, .slice A0_2 l0_2.length c0_2], .agg #[.int .i64 a1_0, .int .i64 a1_1, .slice A1_2 l1_2.length c1_2]] w fun e w' => e = .returned (.bool true) ∧ Below w.heap.size w w' := by
  have hu24 := Try.underlying24
  have hu27 := Try.underlying27
  have HR0_2 := Aside0.mk hr0_2
  have HC0_2 := Aside0.mk hc0_2
  clear hr0_2 hc0_2
  have HR1_2 := Aside0.mk hr1_2
  have HC1_2 := Aside0.mk hc1_2
  clear hr1_2 hc1_2
  have HB := Aside0.mk (Below.refl w.heap.size w)
  replace A4 := Aside0.mk A4
  replace A16 := Aside0.mk A16
  replace A27 := Aside0.mk A27
  replace A39 := Aside0.mk A39
  replace A55 := Aside0.mk A55
  replace A83 := Aside0.mk A83
  replace A100 := Aside0.mk A100
  replace A121 := Aside0.mk A121
  replace A146 := Aside0.mk A146
  replace A172 := Aside0.mk A172
  replace A200 := Aside0.mk A200
  replace A226 := Aside0.mk A226
  replace A254 := Aside0.mk A254
  replace A282 := Aside0.mk A282
  replace A310 := Aside0.mk A310
  replace A337 := Aside0.mk A337
  replace A365 := Aside0.mk A365
  replace A391 := Aside0.mk A391
  replace A418 := Aside0.mk A418
  replace A446 := Aside0.mk A446
  replace A474 := Aside0.mk A474
  replace A534 := Aside0.mk A534
  replace A564 := Aside0.mk A564
  go_enter Try.func7, Try.ntmps7
  go_wp2_with (first | ((with_reducible refine gate_callee (f := 15) rfl ?_); refine goesL_ (some 19) rfl rfl Try.func15 (by kernel_rfl) rfl #[.agg #[.int .i64 a0_0, .int .i64 a0_1, .slice A0_2 l0_2.length c0_2], .int .i64 1048576] rfl (by (try simp only [List.map_toArray, List.map_cons, List.map_nil]); first | done | rfl | (simp only [List.length_drop, List.length_take]; rfl)) ?_; (with_reducible refine (laws_szMatrix.calls k a0_0 a0_1 _ _ l0_2 1048576 s3 _ ?side1 ?side2 A4.out).mono ?_); (case side1 => exact Kd.C_below HR0_2.out (by repeat (first | (with_reducible first | exact HB.out | apply below_alloc | apply pw_below_drewN | apply below_drew1) | exact HB.out))); (case side2 => exact HC0_2.out); rintro e w1 ⟨rfl, hb⟩; refine ⟨_, rfl, ?_⟩; have n1_ := Aside0.mk (blk_below (g := w.heap.size) (o := .cells #[.int .i64 a0_0, .int .i64 a0_1, .slice A0_2 l0_2.length c0_2] 24 (0, 0)) (by repeat (first | exact blk_new_at (by simp) | (with_reducible refine blk_drewN ?_ _) | (with_reducible refine blk_drew ?_) | (with_reducible refine blk_alloc ?_ _))) hb); have n2_ := Aside0.mk (blk_below (g := w.heap.size + 1) (o := .cells #[.int .i64 a1_0, .int .i64 a1_1, .slice A1_2 l1_2.length c1_2] 24 (0, 0)) (by repeat (first | exact blk_new_at (by simp) | (with_reducible refine blk_drewN ?_ _) | (with_reducible refine blk_drew ?_) | (with_reducible refine blk_alloc ?_ _))) hb); have n3_ := Aside0.mk (below_step (by repeat (first | (with_reducible first | exact HB.out | apply below_alloc | apply pw_below_drewN | apply below_drew1) | exact HB.out)) hb); have C5 : Aside0 (w.heap.size + 2 ≤ w1.heap.size) := ⟨by have h_ := hb.size; (try simp at h_); omega⟩; have CC := Aside0.mk C5.out; clear HB; have HX1 := n1_; clear n1_; have HX2 := n2_; clear n2_; have HB := n3_; clear n3_; (try clear hb); have hl6 : w.heap.size < w1.heap.size := blk_lt HX1.out; have hx7 : w1.cell? ⟨w.heap.size, 0, none⟩ = some (.int .i64 a0_0) := (blk_cell HX1.out 0).trans rfl; have hx8 : w1.cell? ⟨w.heap.size, 1, none⟩ = some (.int .i64 a0_1) := (blk_cell HX1.out 1).trans rfl; have hx9 : w1.cell? ⟨w.heap.size, 2, none⟩ = some (.slice A0_2 l0_2.length c0_2) := (blk_cell HX1.out 2).trans rfl; have hl10 : w.heap.size + 1 < w1.heap.size := blk_lt HX2.out; have hx11 : w1.cell? ⟨w.heap.size + 1, 0, none⟩ = some (.int .i64 a1_0) := (blk_cell HX2.out 0).trans rfl; have hx12 : w1.cell? ⟨w.heap.size + 1, 1, none⟩ = some (.int .i64 a1_1) := (blk_cell HX2.out 1).trans rfl; have hx13 : w1.cell? ⟨w.heap.size + 1, 2, none⟩ = some (.slice A1_2 l1_2.length c1_2) := (blk_cell HX2.out 2).trans rfl) | ((with_reducible refine gate_callee (f := 15) rfl ?_); refine goesL_ (some 24) rfl rfl Try.func15 (by kernel_rfl) rfl #[.agg #[.int .i64 a1_0, .int .i64 a1_1, .slice A1_2 l1_2.length c1_2], .int .i64 s3] rfl (by (try simp only [List.map_toArray, List.map_cons, List.map_nil]); first | done | rfl | (simp only [List.length_drop, List.length_take]; rfl)) ?_; (with_reducible refine (laws_szMatrix.calls k a1_0 a1_1 _ _ l1_2 s3 s15 _ ?side1 ?side2 A16.out).mono ?_); (case side1 => exact Kd.C_below HR1_2.out (by repeat (first | (with_reducible first | exact HB.out | apply below_alloc | apply pw_below_drewN | apply below_drew1) | exact HB.out))); (case side2 => exact HC1_2.out); rintro e w2 ⟨rfl, hb⟩; refine ⟨_, rfl, ?_⟩; have n1_ := Aside0.mk (blk_below (g := w.heap.size) (o := .cells #[.int .i64 a0_0, .int .i64 a0_1, .slice A0_2 l0_2.length c0_2] 24 (0, 0)) (by (with_reducible repeat (first | refine blk_drewN ?_ _ | refine blk_drew ?_ | refine blk_alloc ?_ _)); exact HX1.out) hb); have n2_ := Aside0.mk (blk_below (g := w.heap.size + 1) (o := .cells #[.int .i64 a1_0, .int .i64 a1_1, .slice A1_2 l1_2.length c1_2] 24 (0, 0)) (by (with_reducible repeat (first | refine blk_drewN ?_ _ | refine blk_drew ?_ | refine blk_alloc ?_ _)); exact HX2.out) hb); have n3_ := Aside0.mk (below_step (by repeat (first | (with_reducible first | exact HB.out | apply below_alloc | apply pw_below_drewN | apply below_drew1) | exact HB.out)) hb); have C17 : Aside0 (w1.heap.size ≤ w2.heap.size) := ⟨by have h_ := hb.size; (try simp at h_); omega⟩; have CCn_ := Aside0.mk (And.intro CC.out C17.out); clear CC; have CC := CCn_; clear CCn_; clear HX1; clear HX2; clear HB; clear hl6; clear hx7; clear hx8; clear hx9; clear hl10; clear hx11; clear hx12; clear hx13; have HX1 := n1_; clear n1_; have HX2 := n2_; clear n2_; have HB := n3_; clear n3_; (try clear hb); have hl18 : w.heap.size < w2.heap.size := blk_lt HX1.out; have hx19 : w2.cell? ⟨w.heap.size, 0, none⟩ = some (.int .i64 a0_0) := (blk_cell HX1.out 0).trans rfl; have hx20 : w2.cell? ⟨w.heap.size, 1, none⟩ = some (.int .i64 a0_1) := (blk_cell HX1.out 1).trans rfl; have hx21 : w2.cell? ⟨w.heap.size, 2, none⟩ = some (.slice A0_2 l0_2.length c0_2) := (blk_cell HX1.out 2).trans rfl; have hl22 : w.heap.size + 1 < w2.heap.size := blk_lt HX2.out; have hx23 : w2.cell? ⟨w.heap.size + 1, 0, none⟩ = some (.int .i64 a1_0) := (blk_cell HX2.out 0).trans rfl; have hx24 : w2.cell? ⟨w.heap.size + 1, 1, none⟩ = some (.int .i64 a1_1) := (blk_cell HX2.out 1).trans rfl; have hx25 : w2.cell? ⟨w.heap.size + 1, 2, none⟩ = some (.slice A1_2 l1_2.length c1_2) := (blk_cell HX2.out 2).trans rfl))
  go_cut [6, 7] from 27 (fun s6_ s7_ wx => ∃ (gC68 : Nat) (Az58 : Option Addr) (cz58 : Nat), s6_ = .pointer (some ⟨gC68, 0, none⟩) ∧ s7_ = .int .i64 r54 ∧ Aside0 (Kd.S (Kd.slice 2 (Kd.int .i64)) 32 wx w.heap.size (fun k_ => w2.heap.size ≤ k_ ∧ k_ < wx.heap.size) (.slice Az58 r53.length cz58) r53) ∧ Aside0 (wx.heap[gC68]? = some (.cells #[.int .i64 r51, .int .i64 r52, .slice Az58 r53.length cz58] 27 (0, 0))) ∧ Aside0 (wx.heap[w.heap.size]? = some (.cells #[.int .i64 a0_0, .int .i64 a0_1, .slice A0_2 l0_2.length c0_2] 24 (0, 0))) ∧ Aside0 (wx.heap[w.heap.size + 1]? = some (.cells #[.int .i64 a1_0, .int .i64 a1_1, .slice A1_2 l1_2.length c1_2] 24 (0, 0))) ∧ Aside0 (Below w.heap.size w wx) ∧ Aside0 (w2.heap.size ≤ wx.heap.size))
  case first =>
    go_region_held3 (fun w' => w'.cell? ⟨w.heap.size, 0, none⟩ = some (.int .i64 a0_0) ∧ w'.cell? ⟨w.heap.size, 1, none⟩ = some (.int .i64 a0_1) ∧ w'.cell? ⟨w.heap.size, 2, none⟩ = some (.slice A0_2 l0_2.length c0_2) ∧ w'.cell? ⟨w.heap.size + 1, 0, none⟩ = some (.int .i64 a1_0) ∧ w'.cell? ⟨w.heap.size + 1, 1, none⟩ = some (.int .i64 a1_1) ∧ w'.cell? ⟨w.heap.size + 1, 2, none⟩ = some (.slice A1_2 l1_2.length c1_2)) (first | ((repeat' apply And.intro) <;> assumption) | exact ⟨(cell_far3 (a := ⟨w.heap.size, 0, none⟩) (blk_ne HX1.out hz_.out (by decide))).trans (by assumption), (cell_far3 (a := ⟨w.heap.size, 1, none⟩) (blk_ne HX1.out hz_.out (by decide))).trans (by assumption), (cell_far3 (a := ⟨w.heap.size, 2, none⟩) (blk_ne HX1.out hz_.out (by decide))).trans (by assumption), (cell_far3 (a := ⟨w.heap.size + 1, 0, none⟩) (blk_ne HX2.out hz_.out (by decide))).trans (by assumption), (cell_far3 (a := ⟨w.heap.size + 1, 1, none⟩) (blk_ne HX2.out hz_.out (by decide))).trans (by assumption), (cell_far3 (a := ⟨w.heap.size + 1, 2, none⟩) (blk_ne HX2.out hz_.out (by decide))).trans (by assumption)⟩ | go_keep) (first | (go_at_call 17; (with_reducible refine (laws_toMatrix.calls k a0_0 a0_1 _ _ l0_2 a0_0 a0_1 l0_2 _ ?side1 ?side2 A27.out).mono ?_); (case side1 => exact Kd.C_below HR0_2.out (by repeat (first | (with_reducible first | exact HB.out | apply below_alloc | apply pw_below_drewN | apply below_drew1) | exact HB.out))); (case side2 => exact HC0_2.out); rintro e w3 ⟨v100_, rfl, ho0_, hb⟩; (first | (have hzn_ := Aside0.mk (blk_below (g := w2.heap.size) (o := .cells #[(.int .i64 0 : Value), (.int .i64 0 : Value), (.slice none 0 0 : Value)] 27 (0, 0)) (by exact blk_new_at (by simp)) hb)) | (have hzn_ := Aside0.mk (blk_below (o := .cells #[(.int .i64 0 : Value), (.int .i64 0 : Value), (.slice none 0 0 : Value)] 27 (0, 0)) hz_.out hb); clear hz_) | skip); (try (have hz_ := hzn_; clear hzn_)); (try have hzc0_ : w3.cell? ⟨_, 0, none⟩ = some ((.int .i64 0 : Value)) := (blk_cell hz_.out 0).trans rfl); (try have hzf0_ := blk_frozen hz_.out 0); (try have hzc1_ : w3.cell? ⟨_, 1, none⟩ = some ((.int .i64 0 : Value)) := (blk_cell hz_.out 1).trans rfl); (try have hzf1_ := blk_frozen hz_.out 1); (try have hzc2_ : w3.cell? ⟨_, 2, none⟩ = some ((.slice none 0 0 : Value)) := (blk_cell hz_.out 2).trans rfl); (try have hzf2_ := blk_frozen hz_.out 2); (try have hzl_ := blk_lt hz_.out); have n1_ := Aside0.mk (blk_below (g := w.heap.size) (o := .cells #[.int .i64 a0_0, .int .i64 a0_1, .slice A0_2 l0_2.length c0_2] 24 (0, 0)) (by (with_reducible repeat (first | refine blk_drewN ?_ _ | refine blk_drew ?_ | refine blk_alloc ?_ _)); exact HX1.out) hb); have n2_ := Aside0.mk (blk_below (g := w.heap.size + 1) (o := .cells #[.int .i64 a1_0, .int .i64 a1_1, .slice A1_2 l1_2.length c1_2] 24 (0, 0)) (by (with_reducible repeat (first | refine blk_drewN ?_ _ | refine blk_drew ?_ | refine blk_alloc ?_ _)); exact HX2.out) hb); have n3_ := Aside0.mk (below_step (by repeat (first | (with_reducible first | exact HB.out | apply below_alloc | apply pw_below_drewN | apply below_drew1) | exact HB.out)) hb); have C28 : Aside0 (w2.heap.size ≤ w3.heap.size) := ⟨by have h_ := hb.size; (try simp at h_); omega⟩; have CCn_ := Aside0.mk (And.intro CC.out C28.out); clear CC; have CC := CCn_; clear CCn_; clear HX1; clear HX2; clear HB; clear hl18; clear hx19; clear hx20; clear hx21; clear hl22; clear hx23; clear hx24; clear hx25; have HX1 := n1_; clear n1_; have HX2 := n2_; clear n2_; have HB := n3_; clear n3_; have HO29 := Aside0.mk (Kd.S_lower (base' := w.heap.size) (Kd.S_mono (Kd.S_bound ho0_) (ok' := fun k_ => w2.heap.size ≤ k_ ∧ k_ < w3.heap.size) (fun k_ hk_ => ⟨by have h_ := hk_.2.1; (try simp at h_); omega, hk_.2.2.1⟩)) (by have := CC.out; first | omega | (simp; done) | (simp; omega))); obtain ⟨Az30, cz30, ez30⟩ := Kd.S_slice HO29.out; subst ez30; (try clear hb); (try clear ho0_); have hl31 : w.heap.size < w3.heap.size := blk_lt HX1.out; have hx32 : w3.cell? ⟨w.heap.size, 0, none⟩ = some (.int .i64 a0_0) := (blk_cell HX1.out 0).trans rfl; have hx33 : w3.cell? ⟨w.heap.size, 1, none⟩ = some (.int .i64 a0_1) := (blk_cell HX1.out 1).trans rfl; have hx34 : w3.cell? ⟨w.heap.size, 2, none⟩ = some (.slice A0_2 l0_2.length c0_2) := (blk_cell HX1.out 2).trans rfl; have hl35 : w.heap.size + 1 < w3.heap.size := blk_lt HX2.out; have hx36 : w3.cell? ⟨w.heap.size + 1, 0, none⟩ = some (.int .i64 a1_0) := (blk_cell HX2.out 0).trans rfl; have hx37 : w3.cell? ⟨w.heap.size + 1, 1, none⟩ = some (.int .i64 a1_1) := (blk_cell HX2.out 1).trans rfl; have hx38 : w3.cell? ⟨w.heap.size + 1, 2, none⟩ = some (.slice A1_2 l1_2.length c1_2) := (blk_cell HX2.out 2).trans rfl) | (go_at_call 17; (with_reducible refine (laws_toMatrix.calls k a1_0 a1_1 _ _ l1_2 a1_0 a1_1 l1_2 _ ?side1 ?side2 A39.out).mono ?_); (case side1 => exact Kd.C_below HR1_2.out (by repeat (first | (with_reducible first | exact HB.out | apply below_alloc | apply pw_below_drewN | apply below_drew1) | exact HB.out))); (case side2 => exact HC1_2.out); rintro e w4 ⟨v100_, rfl, ho0_, hb⟩; have n1_ := Aside0.mk (Kd.S_below (by (with_reducible repeat (first | apply Kd.S_alloc | apply Kd.S_drewN | apply Kd.S_drew)); exact HO29.out) hb); (try clear hzc0_); (try clear hzf0_); (try clear hzc1_); (try clear hzf1_); (try clear hzc2_); (try clear hzf2_); (try clear hzl_); (first | (have hzn_ := Aside0.mk (blk_below (g := w3.heap.size) (o := .cells #[(.int .i64 0 : Value), (.int .i64 0 : Value), (.slice none 0 0 : Value)] 27 (0, 0)) (by exact blk_new_at (by simp)) hb)) | (have hzn_ := Aside0.mk (blk_below (o := .cells #[(.int .i64 0 : Value), (.int .i64 0 : Value), (.slice none 0 0 : Value)] 27 (0, 0)) hz_.out hb); clear hz_) | skip); (try (have hz_ := hzn_; clear hzn_)); (try have hzc0_ : w4.cell? ⟨_, 0, none⟩ = some ((.int .i64 0 : Value)) := (blk_cell hz_.out 0).trans rfl); (try have hzf0_ := blk_frozen hz_.out 0); (try have hzc1_ : w4.cell? ⟨_, 1, none⟩ = some ((.int .i64 0 : Value)) := (blk_cell hz_.out 1).trans rfl); (try have hzf1_ := blk_frozen hz_.out 1); (try have hzc2_ : w4.cell? ⟨_, 2, none⟩ = some ((.slice none 0 0 : Value)) := (blk_cell hz_.out 2).trans rfl); (try have hzf2_ := blk_frozen hz_.out 2); (try have hzl_ := blk_lt hz_.out); have n2_ := Aside0.mk (blk_below (g := w.heap.size) (o := .cells #[.int .i64 a0_0, .int .i64 a0_1, .slice A0_2 l0_2.length c0_2] 24 (0, 0)) (by (with_reducible repeat (first | refine blk_drewN ?_ _ | refine blk_drew ?_ | refine blk_alloc ?_ _)); exact HX1.out) hb); have n3_ := Aside0.mk (blk_below (g := w.heap.size + 1) (o := .cells #[.int .i64 a1_0, .int .i64 a1_1, .slice A1_2 l1_2.length c1_2] 24 (0, 0)) (by (with_reducible repeat (first | refine blk_drewN ?_ _ | refine blk_drew ?_ | refine blk_alloc ?_ _)); exact HX2.out) hb); have n4_ := Aside0.mk (below_step (by repeat (first | (with_reducible first | exact HB.out | apply below_alloc | apply pw_below_drewN | apply below_drew1) | exact HB.out)) hb); have C40 : Aside0 (w3.heap.size ≤ w4.heap.size) := ⟨by have h_ := hb.size; (try simp at h_); omega⟩; have CCn_ := Aside0.mk (And.intro CC.out C40.out); clear CC; have CC := CCn_; clear CCn_; clear HO29; clear HX1; clear HX2; clear HB; clear hl31; clear hx32; clear hx33; clear hx34; clear hl35; clear hx36; clear hx37; clear hx38; have HO29 := n1_; clear n1_; have HX1 := n2_; clear n2_; have HX2 := n3_; clear n3_; have HB := n4_; clear n4_; have HO41 := Aside0.mk (Kd.S_lower (base' := w.heap.size) (Kd.S_mono (Kd.S_bound ho0_) (ok' := fun k_ => w3.heap.size ≤ k_ ∧ k_ < w4.heap.size) (fun k_ hk_ => ⟨by have h_ := hk_.2.1; (try simp at h_); omega, hk_.2.2.1⟩)) (by have := CC.out; first | omega | (simp; done) | (simp; omega))); obtain ⟨Az42, cz42, ez42⟩ := Kd.S_slice HO41.out; subst ez42; (try clear hb); (try clear ho0_); have hl43 : w.heap.size < w4.heap.size := blk_lt HX1.out; have hx44 : w4.cell? ⟨w.heap.size, 0, none⟩ = some (.int .i64 a0_0) := (blk_cell HX1.out 0).trans rfl; have hx45 : w4.cell? ⟨w.heap.size, 1, none⟩ = some (.int .i64 a0_1) := (blk_cell HX1.out 1).trans rfl; have hx46 : w4.cell? ⟨w.heap.size, 2, none⟩ = some (.slice A0_2 l0_2.length c0_2) := (blk_cell HX1.out 2).trans rfl; have hl47 : w.heap.size + 1 < w4.heap.size := blk_lt HX2.out; have hx48 : w4.cell? ⟨w.heap.size + 1, 0, none⟩ = some (.int .i64 a1_0) := (blk_cell HX2.out 0).trans rfl; have hx49 : w4.cell? ⟨w.heap.size + 1, 1, none⟩ = some (.int .i64 a1_1) := (blk_cell HX2.out 1).trans rfl; have hx50 : w4.cell? ⟨w.heap.size + 1, 2, none⟩ = some (.slice A1_2 l1_2.length c1_2) := (blk_cell HX2.out 2).trans rfl) | (go_at_call 31; (with_reducible refine (spec_StackRows.calls k a0_0 a0_1 _ _ l0_2 a1_0 a1_1 _ _ l1_2 r51 r52 r53 r54 _ ?side1 ?side2 ?side3 ?side4 A55.out).mono ?_); (case side1 => exact (Kd.S_reads' (n := l0_2.length) (A := Az30) (c := cz30) (by (with_reducible repeat (first | apply Kd.S_alloc | apply Kd.S_drewN | apply Kd.S_drew)); exact HO29.out)).2.2); (case side2 => exact (Kd.S_reads' (n := l0_2.length) (A := Az30) (c := cz30) HO29.out).2.1); (case side3 => exact (Kd.S_reads' (n := l1_2.length) (A := Az42) (c := cz42) (by (with_reducible repeat (first | apply Kd.S_alloc | apply Kd.S_drewN | apply Kd.S_drew)); exact HO41.out)).2.2); (case side4 => exact (Kd.S_reads' (n := l1_2.length) (A := Az42) (c := cz42) HO41.out).2.1); rintro e w5 ⟨v100_, rfl, ho0_, hb⟩; have n1_ := Aside0.mk (Kd.S_below (by (with_reducible repeat (first | apply Kd.S_alloc | apply Kd.S_drewN | apply Kd.S_drew)); exact HO29.out) hb); have n2_ := Aside0.mk (Kd.S_below (by (with_reducible repeat (first | apply Kd.S_alloc | apply Kd.S_drewN | apply Kd.S_drew)); exact HO41.out) hb); (try clear hzc0_); (try clear hzf0_); (try clear hzc1_); (try clear hzf1_); (try clear hzc2_); (try clear hzf2_); (try clear hzl_); (first | (have hzn_ := Aside0.mk (blk_below (g := w4.heap.size) (o := .cells #[(.int .i64 0 : Value), (.int .i64 0 : Value), (.slice none 0 0 : Value)] 27 (0, 0)) (by exact blk_new_at (by simp)) hb)) | (have hzn_ := Aside0.mk (blk_below (o := .cells #[(.int .i64 0 : Value), (.int .i64 0 : Value), (.slice none 0 0 : Value)] 27 (0, 0)) hz_.out hb); clear hz_) | skip); (try (have hz_ := hzn_; clear hzn_)); (try have hzc0_ : w5.cell? ⟨_, 0, none⟩ = some ((.int .i64 0 : Value)) := (blk_cell hz_.out 0).trans rfl); (try have hzf0_ := blk_frozen hz_.out 0); (try have hzc1_ : w5.cell? ⟨_, 1, none⟩ = some ((.int .i64 0 : Value)) := (blk_cell hz_.out 1).trans rfl); (try have hzf1_ := blk_frozen hz_.out 1); (try have hzc2_ : w5.cell? ⟨_, 2, none⟩ = some ((.slice none 0 0 : Value)) := (blk_cell hz_.out 2).trans rfl); (try have hzf2_ := blk_frozen hz_.out 2); (try have hzl_ := blk_lt hz_.out); have n3_ := Aside0.mk (blk_below (g := w.heap.size) (o := .cells #[.int .i64 a0_0, .int .i64 a0_1, .slice A0_2 l0_2.length c0_2] 24 (0, 0)) (by (with_reducible repeat (first | refine blk_drewN ?_ _ | refine blk_drew ?_ | refine blk_alloc ?_ _)); exact HX1.out) hb); have n4_ := Aside0.mk (blk_below (g := w.heap.size + 1) (o := .cells #[.int .i64 a1_0, .int .i64 a1_1, .slice A1_2 l1_2.length c1_2] 24 (0, 0)) (by (with_reducible repeat (first | refine blk_drewN ?_ _ | refine blk_drew ?_ | refine blk_alloc ?_ _)); exact HX2.out) hb); have n5_ := Aside0.mk (below_step (by repeat (first | (with_reducible first | exact HB.out | apply below_alloc | apply pw_below_drewN | apply below_drew1) | exact HB.out)) hb); have C56 : Aside0 (w4.heap.size ≤ w5.heap.size) := ⟨by have h_ := hb.size; (try simp at h_); omega⟩; have CCn_ := Aside0.mk (And.intro CC.out C56.out); clear CC; have CC := CCn_; clear CCn_; clear HO29; clear HO41; clear HX1; clear HX2; clear HB; clear hl43; clear hx44; clear hx45; clear hx46; clear hl47; clear hx48; clear hx49; clear hx50; have HO29 := n1_; clear n1_; have HO41 := n2_; clear n2_; have HX1 := n3_; clear n3_; have HX2 := n4_; clear n4_; have HB := n5_; clear n5_; have HO57 := Aside0.mk (Kd.S_lower (base' := w.heap.size) (Kd.S_mono (Kd.S_bound ho0_) (ok' := fun k_ => w4.heap.size ≤ k_ ∧ k_ < w5.heap.size) (fun k_ hk_ => ⟨by have h_ := hk_.2.1; (try simp at h_); omega, hk_.2.2.1⟩)) (by have := CC.out; first | omega | (simp; done) | (simp; omega))); obtain ⟨Az58, cz58, ez58⟩ := Kd.S_slice HO57.out; subst ez58; (try clear hb); (try clear ho0_); have hl59 : w.heap.size < w5.heap.size := blk_lt HX1.out; have hx60 : w5.cell? ⟨w.heap.size, 0, none⟩ = some (.int .i64 a0_0) := (blk_cell HX1.out 0).trans rfl; have hx61 : w5.cell? ⟨w.heap.size, 1, none⟩ = some (.int .i64 a0_1) := (blk_cell HX1.out 1).trans rfl; have hx62 : w5.cell? ⟨w.heap.size, 2, none⟩ = some (.slice A0_2 l0_2.length c0_2) := (blk_cell HX1.out 2).trans rfl; have hl63 : w.heap.size + 1 < w5.heap.size := blk_lt HX2.out; have hx64 : w5.cell? ⟨w.heap.size + 1, 0, none⟩ = some (.int .i64 a1_0) := (blk_cell HX2.out 0).trans rfl; have hx65 : w5.cell? ⟨w.heap.size + 1, 1, none⟩ = some (.int .i64 a1_1) := (blk_cell HX2.out 1).trans rfl; have hx66 : w5.cell? ⟨w.heap.size + 1, 2, none⟩ = some (.slice A1_2 l1_2.length c1_2) := (blk_cell HX2.out 2).trans rfl))
    all_goals (go_wp2_with fail; go_meet; first | (have hq_ := hz_.out; clear hq_; exact ⟨_, _, _, rfl, rfl, ⟨Kd.S_mono (Kd.S_set (Kd.S_set (Kd.S_set (HO57.out) (hz_.out) (by decide) 0 _) (blk_set (hz_.out) 0 _) (by decide) 1 _) (blk_set (blk_set (hz_.out) 0 _) 1 _) (by decide) 2 _) (fun k_ hk_ => ⟨by have := CC.out; have h1_ := hk_.1; omega, by rw [size_set, size_set, size_set]; exact hk_.2⟩)⟩, ⟨blk_put (blk_put (blk_put (hz_.out) 0 _ rfl) 1 _ rfl) 2 _ rfl⟩, ⟨blk_far (p := ⟨_, 2, none⟩) (blk_far (p := ⟨_, 1, none⟩) (blk_far (p := ⟨_, 0, none⟩) (HX1.out) (by have := CC.out; dsimp only; omega) _) (by have := CC.out; dsimp only; omega) _) (by have := CC.out; dsimp only; omega) _⟩, ⟨blk_far (p := ⟨_, 2, none⟩) (blk_far (p := ⟨_, 1, none⟩) (blk_far (p := ⟨_, 0, none⟩) (HX2.out) (by have := CC.out; dsimp only; omega) _) (by have := CC.out; dsimp only; omega) _) (by have := CC.out; dsimp only; omega) _⟩, ⟨below_set (below_set (below_set (HB.out) (by have := CC.out; omega)) (by have := CC.out; omega)) (by have := CC.out; omega)⟩, ⟨by rw [size_set, size_set, size_set]; have := CC.out; omega⟩⟩) | exact ⟨_, _, _, rfl, rfl, ⟨Kd.S_mono (Kd.S_alloc HO57.out _) (fun k_ hk_ => ⟨by have := CC.out; have h1_ := hk_.1; omega, lt_alloc hk_.2⟩)⟩, ⟨blk_new _ _⟩, ⟨blk_alloc HX1.out _⟩, ⟨blk_alloc HX2.out _⟩, ⟨below_alloc HB.out _⟩, ⟨le_alloc (by have := CC.out; omega)⟩⟩)
  case rest =>
  (try clear hl18)
  (try clear hx19)
  (try clear hx20)
  (try clear hx21)
  (try clear hl22)
  (try clear hx23)
  (try clear hx24)
  (try clear hx25)
  (try clear HX1)
  (try clear HX2)
  (try clear HB)
  obtain ⟨gC68, Az58, cz58, rfl, rfl, HO57, HX67, HX1, HX2, HB, C69⟩ := hcut
  rename World => w6
  have C70 : Aside0 (gC68 + 1 ≤ w6.heap.size) := ⟨blk_lt HX67.out⟩
  have CCn_ := Aside0.mk (And.intro CC.out C69.out)
  clear CC
  have CC := CCn_
  clear CCn_
  have CCn_ := Aside0.mk (And.intro CC.out C70.out)
  clear CC
  have CC := CCn_
  clear CCn_
  have hl71 : w.heap.size < w6.heap.size := blk_lt HX1.out
  have hx72 : w6.cell? ⟨w.heap.size, 0, none⟩ = some (.int .i64 a0_0) := (blk_cell HX1.out 0).trans rfl
  have hx73 : w6.cell? ⟨w.heap.size, 1, none⟩ = some (.int .i64 a0_1) := (blk_cell HX1.out 1).trans rfl
  have hx74 : w6.cell? ⟨w.heap.size, 2, none⟩ = some (.slice A0_2 l0_2.length c0_2) := (blk_cell HX1.out 2).trans rfl
  have hl75 : w.heap.size + 1 < w6.heap.size := blk_lt HX2.out
  have hx76 : w6.cell? ⟨w.heap.size + 1, 0, none⟩ = some (.int .i64 a1_0) := (blk_cell HX2.out 0).trans rfl
  have hx77 : w6.cell? ⟨w.heap.size + 1, 1, none⟩ = some (.int .i64 a1_1) := (blk_cell HX2.out 1).trans rfl
  have hx78 : w6.cell? ⟨w.heap.size + 1, 2, none⟩ = some (.slice A1_2 l1_2.length c1_2) := (blk_cell HX2.out 2).trans rfl
  have hl79 : gC68 < w6.heap.size := blk_lt HX67.out
  have hx80 : w6.cell? ⟨gC68, 0, none⟩ = some (.int .i64 r51) := (blk_cell HX67.out 0).trans rfl
  have hx81 : w6.cell? ⟨gC68, 1, none⟩ = some (.int .i64 r52) := (blk_cell HX67.out 1).trans rfl
  have hx82 : w6.cell? ⟨gC68, 2, none⟩ = some (.slice Az58 r53.length cz58) := (blk_cell HX67.out 2).trans rfl
  go_wp2_with (first | ((with_reducible refine gate_callee (f := 17) rfl ?_); refine goesL_ (some 36) rfl rfl Try.func17 (by kernel_rfl) rfl #[.agg #[.int .i64 a0_0, .int .i64 a0_1, .slice A0_2 l0_2.length c0_2]] rfl (by (try simp only [List.map_toArray, List.map_cons, List.map_nil]); first | done | rfl | (simp only [List.length_drop, List.length_take]; rfl)) ?_; (with_reducible refine (laws_toMatrix.calls k a0_0 a0_1 _ _ l0_2 a0_0 a0_1 l0_2 _ ?side1 ?side2 A83.out).mono ?_); (case side1 => exact Kd.C_below HR0_2.out (by repeat (first | (with_reducible first | exact HB.out | apply below_alloc | apply pw_below_drewN | apply below_drew1) | exact HB.out))); (case side2 => exact HC0_2.out); rintro e w7 ⟨v100_, rfl, ho0_, hb⟩; refine ⟨_, rfl, ?_⟩; have n1_ := Aside0.mk (Kd.S_below (by (with_reducible repeat (first | apply Kd.S_alloc | apply Kd.S_drewN | apply Kd.S_drew)); exact HO57.out) hb); have n2_ := Aside0.mk (blk_below (g := w.heap.size) (o := .cells #[.int .i64 a0_0, .int .i64 a0_1, .slice A0_2 l0_2.length c0_2] 24 (0, 0)) (by (with_reducible repeat (first | refine blk_drewN ?_ _ | refine blk_drew ?_ | refine blk_alloc ?_ _)); exact HX1.out) hb); have n3_ := Aside0.mk (blk_below (g := w.heap.size + 1) (o := .cells #[.int .i64 a1_0, .int .i64 a1_1, .slice A1_2 l1_2.length c1_2] 24 (0, 0)) (by (with_reducible repeat (first | refine blk_drewN ?_ _ | refine blk_drew ?_ | refine blk_alloc ?_ _)); exact HX2.out) hb); have n4_ := Aside0.mk (blk_below (g := gC68) (o := .cells #[.int .i64 r51, .int .i64 r52, .slice Az58 r53.length cz58] 27 (0, 0)) (by (with_reducible repeat (first | refine blk_drewN ?_ _ | refine blk_drew ?_ | refine blk_alloc ?_ _)); exact HX67.out) hb); have n5_ := Aside0.mk (below_step (by repeat (first | (with_reducible first | exact HB.out | apply below_alloc | apply pw_below_drewN | apply below_drew1) | exact HB.out)) hb); have C84 : Aside0 (w6.heap.size ≤ w7.heap.size) := ⟨by have h_ := hb.size; (try simp at h_); omega⟩; have CCn_ := Aside0.mk (And.intro CC.out C84.out); clear CC; have CC := CCn_; clear CCn_; clear HO57; clear HX1; clear HX2; clear HX67; clear HB; clear hl71; clear hx72; clear hx73; clear hx74; clear hl75; clear hx76; clear hx77; clear hx78; clear hl79; clear hx80; clear hx81; clear hx82; have HO57 := n1_; clear n1_; have HX1 := n2_; clear n2_; have HX2 := n3_; clear n3_; have HX67 := n4_; clear n4_; have HB := n5_; clear n5_; have HO85 := Aside0.mk (Kd.S_lower (base' := w.heap.size) (Kd.S_mono (Kd.S_bound ho0_) (ok' := fun k_ => w6.heap.size ≤ k_ ∧ k_ < w7.heap.size) (fun k_ hk_ => ⟨by have h_ := hk_.2.1; (try simp at h_); omega, hk_.2.2.1⟩)) (by have := CC.out; first | omega | (simp; done) | (simp; omega))); obtain ⟨Az86, cz86, ez86⟩ := Kd.S_slice HO85.out; subst ez86; (try clear hb); (try clear ho0_); have hl87 : w.heap.size < w7.heap.size := blk_lt HX1.out; have hx88 : w7.cell? ⟨w.heap.size, 0, none⟩ = some (.int .i64 a0_0) := (blk_cell HX1.out 0).trans rfl; have hx89 : w7.cell? ⟨w.heap.size, 1, none⟩ = some (.int .i64 a0_1) := (blk_cell HX1.out 1).trans rfl; have hx90 : w7.cell? ⟨w.heap.size, 2, none⟩ = some (.slice A0_2 l0_2.length c0_2) := (blk_cell HX1.out 2).trans rfl; have hl91 : w.heap.size + 1 < w7.heap.size := blk_lt HX2.out; have hx92 : w7.cell? ⟨w.heap.size + 1, 0, none⟩ = some (.int .i64 a1_0) := (blk_cell HX2.out 0).trans rfl; have hx93 : w7.cell? ⟨w.heap.size + 1, 1, none⟩ = some (.int .i64 a1_1) := (blk_cell HX2.out 1).trans rfl; have hx94 : w7.cell? ⟨w.heap.size + 1, 2, none⟩ = some (.slice A1_2 l1_2.length c1_2) := (blk_cell HX2.out 2).trans rfl; have hl95 : gC68 < w7.heap.size := blk_lt HX67.out; have hx96 : w7.cell? ⟨gC68, 0, none⟩ = some (.int .i64 r51) := (blk_cell HX67.out 0).trans rfl; have hx97 : w7.cell? ⟨gC68, 1, none⟩ = some (.int .i64 r52) := (blk_cell HX67.out 1).trans rfl; have hx98 : w7.cell? ⟨gC68, 2, none⟩ = some (.slice Az58 r53.length cz58) := (blk_cell HX67.out 2).trans rfl) | ((with_reducible refine gate_callee (f := 17) rfl ?_); refine goesL_ (some 38) rfl rfl Try.func17 (by kernel_rfl) rfl #[.agg #[.int .i64 a1_0, .int .i64 a1_1, .slice A1_2 l1_2.length c1_2]] rfl (by (try simp only [List.map_toArray, List.map_cons, List.map_nil]); first | done | rfl | (simp only [List.length_drop, List.length_take]; rfl)) ?_; (with_reducible refine (laws_toMatrix.calls k a1_0 a1_1 _ _ l1_2 a1_0 a1_1 l1_2 _ ?side1 ?side2 A100.out).mono ?_); (case side1 => exact Kd.C_below HR1_2.out (by repeat (first | (with_reducible first | exact HB.out | apply below_alloc | apply pw_below_drewN | apply below_drew1) | exact HB.out))); (case side2 => exact HC1_2.out); rintro e w8 ⟨v100_, rfl, ho0_, hb⟩; refine ⟨_, rfl, ?_⟩; have n1_ := Aside0.mk (Kd.S_below (by (with_reducible repeat (first | apply Kd.S_alloc | apply Kd.S_drewN | apply Kd.S_drew)); exact HO57.out) hb); have n2_ := Aside0.mk (Kd.S_below (by (with_reducible repeat (first | apply Kd.S_alloc | apply Kd.S_drewN | apply Kd.S_drew)); exact HO85.out) hb); have n3_ := Aside0.mk (blk_below (g := w.heap.size) (o := .cells #[.int .i64 a0_0, .int .i64 a0_1, .slice A0_2 l0_2.length c0_2] 24 (0, 0)) (by (with_reducible repeat (first | refine blk_drewN ?_ _ | refine blk_drew ?_ | refine blk_alloc ?_ _)); exact HX1.out) hb); have n4_ := Aside0.mk (blk_below (g := w.heap.size + 1) (o := .cells #[.int .i64 a1_0, .int .i64 a1_1, .slice A1_2 l1_2.length c1_2] 24 (0, 0)) (by (with_reducible repeat (first | refine blk_drewN ?_ _ | refine blk_drew ?_ | refine blk_alloc ?_ _)); exact HX2.out) hb); have n5_ := Aside0.mk (blk_below (g := gC68) (o := .cells #[.int .i64 r51, .int .i64 r52, .slice Az58 r53.length cz58] 27 (0, 0)) (by (with_reducible repeat (first | refine blk_drewN ?_ _ | refine blk_drew ?_ | refine blk_alloc ?_ _)); exact HX67.out) hb); have n6_ := Aside0.mk (blk_below (g := w7.heap.size) (o := .cells #[.int .i64 a0_0, .int .i64 a0_1, .slice Az86 l0_2.length cz86] 27 (0, 0)) (by repeat (first | exact blk_new_at (by simp) | (with_reducible refine blk_drewN ?_ _) | (with_reducible refine blk_drew ?_) | (with_reducible refine blk_alloc ?_ _))) hb); have n7_ := Aside0.mk (below_step (by repeat (first | (with_reducible first | exact HB.out | apply below_alloc | apply pw_below_drewN | apply below_drew1) | exact HB.out)) hb); have C101 : Aside0 (w7.heap.size + 1 ≤ w8.heap.size) := ⟨by have h_ := hb.size; (try simp at h_); omega⟩; have CCn_ := Aside0.mk (And.intro CC.out C101.out); clear CC; have CC := CCn_; clear CCn_; clear HO57; clear HO85; clear HX1; clear HX2; clear HX67; clear HB; clear hl87; clear hx88; clear hx89; clear hx90; clear hl91; clear hx92; clear hx93; clear hx94; clear hl95; clear hx96; clear hx97; clear hx98; have HO57 := n1_; clear n1_; have HO85 := n2_; clear n2_; have HX1 := n3_; clear n3_; have HX2 := n4_; clear n4_; have HX67 := n5_; clear n5_; have HX99 := n6_; clear n6_; have HB := n7_; clear n7_; have HO102 := Aside0.mk (Kd.S_lower (base' := w.heap.size) (Kd.S_mono (Kd.S_bound ho0_) (ok' := fun k_ => w7.heap.size + 1 ≤ k_ ∧ k_ < w8.heap.size) (fun k_ hk_ => ⟨by have h_ := hk_.2.1; (try simp at h_); omega, hk_.2.2.1⟩)) (by have := CC.out; first | omega | (simp; done) | (simp; omega))); obtain ⟨Az103, cz103, ez103⟩ := Kd.S_slice HO102.out; subst ez103; (try clear hb); (try clear ho0_); have hl104 : w.heap.size < w8.heap.size := blk_lt HX1.out; have hx105 : w8.cell? ⟨w.heap.size, 0, none⟩ = some (.int .i64 a0_0) := (blk_cell HX1.out 0).trans rfl; have hx106 : w8.cell? ⟨w.heap.size, 1, none⟩ = some (.int .i64 a0_1) := (blk_cell HX1.out 1).trans rfl; have hx107 : w8.cell? ⟨w.heap.size, 2, none⟩ = some (.slice A0_2 l0_2.length c0_2) := (blk_cell HX1.out 2).trans rfl; have hl108 : w.heap.size + 1 < w8.heap.size := blk_lt HX2.out; have hx109 : w8.cell? ⟨w.heap.size + 1, 0, none⟩ = some (.int .i64 a1_0) := (blk_cell HX2.out 0).trans rfl; have hx110 : w8.cell? ⟨w.heap.size + 1, 1, none⟩ = some (.int .i64 a1_1) := (blk_cell HX2.out 1).trans rfl; have hx111 : w8.cell? ⟨w.heap.size + 1, 2, none⟩ = some (.slice A1_2 l1_2.length c1_2) := (blk_cell HX2.out 2).trans rfl; have hl112 : gC68 < w8.heap.size := blk_lt HX67.out; have hx113 : w8.cell? ⟨gC68, 0, none⟩ = some (.int .i64 r51) := (blk_cell HX67.out 0).trans rfl; have hx114 : w8.cell? ⟨gC68, 1, none⟩ = some (.int .i64 r52) := (blk_cell HX67.out 1).trans rfl; have hx115 : w8.cell? ⟨gC68, 2, none⟩ = some (.slice Az58 r53.length cz58) := (blk_cell HX67.out 2).trans rfl; have hl116 : w7.heap.size < w8.heap.size := blk_lt HX99.out; have hx117 : w8.cell? ⟨w7.heap.size, 0, none⟩ = some (.int .i64 a0_0) := (blk_cell HX99.out 0).trans rfl; have hx118 : w8.cell? ⟨w7.heap.size, 1, none⟩ = some (.int .i64 a0_1) := (blk_cell HX99.out 1).trans rfl; have hx119 : w8.cell? ⟨w7.heap.size, 2, none⟩ = some (.slice Az86 l0_2.length cz86) := (blk_cell HX99.out 2).trans rfl) | ((with_reducible refine gate_callee (f := 32) rfl ?_); refine goesL_ (some 42) rfl rfl Try.func32 (by kernel_rfl) rfl #[.agg #[.int .i64 a0_0, .int .i64 a0_1, .slice Az86 l0_2.length cz86], .agg #[.int .i64 a1_0, .int .i64 a1_1, .slice Az103 l1_2.length cz103]] rfl (by (try simp only [List.map_toArray, List.map_cons, List.map_nil]); first | done | rfl | (simp only [List.length_drop, List.length_take]; rfl)) ?_; (with_reducible refine (impl_StackRows.calls k a0_0 a0_1 _ _ l0_2 a1_0 a1_1 _ _ l1_2 r51 r52 r53 r54 _ ?side1 ?side2 ?side3 ?side4 A121.out).mono ?_); (case side1 => exact (Kd.S_reads' (n := l0_2.length) (A := Az86) (c := cz86) (by (with_reducible repeat (first | apply Kd.S_alloc | apply Kd.S_drewN | apply Kd.S_drew)); exact HO85.out)).2.2); (case side2 => exact (Kd.S_reads' (n := l0_2.length) (A := Az86) (c := cz86) HO85.out).2.1); (case side3 => exact (Kd.S_reads' (n := l1_2.length) (A := Az103) (c := cz103) (by (with_reducible repeat (first | apply Kd.S_alloc | apply Kd.S_drewN | apply Kd.S_drew)); exact HO102.out)).2.2); (case side4 => exact (Kd.S_reads' (n := l1_2.length) (A := Az103) (c := cz103) HO102.out).2.1); rintro e w9 ⟨v100_, rfl, ho0_, hb⟩; refine ⟨_, rfl, ?_⟩; have n1_ := Aside0.mk (Kd.S_below (by (with_reducible repeat (first | apply Kd.S_alloc | apply Kd.S_drewN | apply Kd.S_drew)); exact HO57.out) hb); have n2_ := Aside0.mk (Kd.S_below (by (with_reducible repeat (first | apply Kd.S_alloc | apply Kd.S_drewN | apply Kd.S_drew)); exact HO85.out) hb); have n3_ := Aside0.mk (Kd.S_below (by (with_reducible repeat (first | apply Kd.S_alloc | apply Kd.S_drewN | apply Kd.S_drew)); exact HO102.out) hb); have n4_ := Aside0.mk (blk_below (g := w.heap.size) (o := .cells #[.int .i64 a0_0, .int .i64 a0_1, .slice A0_2 l0_2.length c0_2] 24 (0, 0)) (by (with_reducible repeat (first | refine blk_drewN ?_ _ | refine blk_drew ?_ | refine blk_alloc ?_ _)); exact HX1.out) hb); have n5_ := Aside0.mk (blk_below (g := w.heap.size + 1) (o := .cells #[.int .i64 a1_0, .int .i64 a1_1, .slice A1_2 l1_2.length c1_2] 24 (0, 0)) (by (with_reducible repeat (first | refine blk_drewN ?_ _ | refine blk_drew ?_ | refine blk_alloc ?_ _)); exact HX2.out) hb); have n6_ := Aside0.mk (blk_below (g := gC68) (o := .cells #[.int .i64 r51, .int .i64 r52, .slice Az58 r53.length cz58] 27 (0, 0)) (by (with_reducible repeat (first | refine blk_drewN ?_ _ | refine blk_drew ?_ | refine blk_alloc ?_ _)); exact HX67.out) hb); have n7_ := Aside0.mk (blk_below (g := w7.heap.size) (o := .cells #[.int .i64 a0_0, .int .i64 a0_1, .slice Az86 l0_2.length cz86] 27 (0, 0)) (by (with_reducible repeat (first | refine blk_drewN ?_ _ | refine blk_drew ?_ | refine blk_alloc ?_ _)); exact HX99.out) hb); have n8_ := Aside0.mk (blk_below (g := w8.heap.size) (o := .cells #[.int .i64 a1_0, .int .i64 a1_1, .slice Az103 l1_2.length cz103] 27 (0, 0)) (by repeat (first | exact blk_new_at (by simp) | (with_reducible refine blk_drewN ?_ _) | (with_reducible refine blk_drew ?_) | (with_reducible refine blk_alloc ?_ _))) hb); have n9_ := Aside0.mk (below_step (by repeat (first | (with_reducible first | exact HB.out | apply below_alloc | apply pw_below_drewN | apply below_drew1) | exact HB.out)) hb); have C122 : Aside0 (w8.heap.size + 1 ≤ w9.heap.size) := ⟨by have h_ := hb.size; (try simp at h_); omega⟩; have CCn_ := Aside0.mk (And.intro CC.out C122.out); clear CC; have CC := CCn_; clear CCn_; clear HO57; clear HO85; clear HO102; clear HX1; clear HX2; clear HX67; clear HX99; clear HB; clear hl104; clear hx105; clear hx106; clear hx107; clear hl108; clear hx109; clear hx110; clear hx111; clear hl112; clear hx113; clear hx114; clear hx115; clear hl116; clear hx117; clear hx118; clear hx119; have HO57 := n1_; clear n1_; have HO85 := n2_; clear n2_; have HO102 := n3_; clear n3_; have HX1 := n4_; clear n4_; have HX2 := n5_; clear n5_; have HX67 := n6_; clear n6_; have HX99 := n7_; clear n7_; have HX120 := n8_; clear n8_; have HB := n9_; clear n9_; have HO123 := Aside0.mk (Kd.S_lower (base' := w.heap.size) (Kd.S_mono (Kd.S_bound ho0_) (ok' := fun k_ => w8.heap.size + 1 ≤ k_ ∧ k_ < w9.heap.size) (fun k_ hk_ => ⟨by have h_ := hk_.2.1; (try simp at h_); omega, hk_.2.2.1⟩)) (by have := CC.out; first | omega | (simp; done) | (simp; omega))); obtain ⟨Az124, cz124, ez124⟩ := Kd.S_slice HO123.out; subst ez124; (try clear hb); (try clear ho0_); have hl125 : w.heap.size < w9.heap.size := blk_lt HX1.out; have hx126 : w9.cell? ⟨w.heap.size, 0, none⟩ = some (.int .i64 a0_0) := (blk_cell HX1.out 0).trans rfl; have hx127 : w9.cell? ⟨w.heap.size, 1, none⟩ = some (.int .i64 a0_1) := (blk_cell HX1.out 1).trans rfl; have hx128 : w9.cell? ⟨w.heap.size, 2, none⟩ = some (.slice A0_2 l0_2.length c0_2) := (blk_cell HX1.out 2).trans rfl; have hl129 : w.heap.size + 1 < w9.heap.size := blk_lt HX2.out; have hx130 : w9.cell? ⟨w.heap.size + 1, 0, none⟩ = some (.int .i64 a1_0) := (blk_cell HX2.out 0).trans rfl; have hx131 : w9.cell? ⟨w.heap.size + 1, 1, none⟩ = some (.int .i64 a1_1) := (blk_cell HX2.out 1).trans rfl; have hx132 : w9.cell? ⟨w.heap.size + 1, 2, none⟩ = some (.slice A1_2 l1_2.length c1_2) := (blk_cell HX2.out 2).trans rfl; have hl133 : gC68 < w9.heap.size := blk_lt HX67.out; have hx134 : w9.cell? ⟨gC68, 0, none⟩ = some (.int .i64 r51) := (blk_cell HX67.out 0).trans rfl; have hx135 : w9.cell? ⟨gC68, 1, none⟩ = some (.int .i64 r52) := (blk_cell HX67.out 1).trans rfl; have hx136 : w9.cell? ⟨gC68, 2, none⟩ = some (.slice Az58 r53.length cz58) := (blk_cell HX67.out 2).trans rfl; have hl137 : w7.heap.size < w9.heap.size := blk_lt HX99.out; have hx138 : w9.cell? ⟨w7.heap.size, 0, none⟩ = some (.int .i64 a0_0) := (blk_cell HX99.out 0).trans rfl; have hx139 : w9.cell? ⟨w7.heap.size, 1, none⟩ = some (.int .i64 a0_1) := (blk_cell HX99.out 1).trans rfl; have hx140 : w9.cell? ⟨w7.heap.size, 2, none⟩ = some (.slice Az86 l0_2.length cz86) := (blk_cell HX99.out 2).trans rfl; have hl141 : w8.heap.size < w9.heap.size := blk_lt HX120.out; have hx142 : w9.cell? ⟨w8.heap.size, 0, none⟩ = some (.int .i64 a1_0) := (blk_cell HX120.out 0).trans rfl; have hx143 : w9.cell? ⟨w8.heap.size, 1, none⟩ = some (.int .i64 a1_1) := (blk_cell HX120.out 1).trans rfl; have hx144 : w9.cell? ⟨w8.heap.size, 2, none⟩ = some (.slice Az103 l1_2.length cz103) := (blk_cell HX120.out 2).trans rfl) | ((with_reducible refine gate_callee (f := 19) rfl ?_); refine goesL_ (some 47) rfl rfl Try.func19 (by kernel_rfl) rfl #[.agg #[.int .i64 r51, .int .i64 r52, .slice Az124 r53.length cz124], .agg #[.int .i64 r51, .int .i64 r52, .slice Az58 r53.length cz58]] rfl (by (try simp only [List.map_toArray, List.map_cons, List.map_nil]); first | done | rfl | (simp only [List.length_drop, List.length_take]; rfl)) ?_; (with_reducible refine (laws_eqMatrix.calls k r51 r52 _ _ r53 r51 r52 _ _ r53 true _ ?side1 ?side2 ?side3 ?side4 A146.out).mono ?_); (case side1 => exact (Kd.S_reads' (n := r53.length) (A := Az124) (c := cz124) (by (with_reducible repeat (first | apply Kd.S_alloc | apply Kd.S_drewN | apply Kd.S_drew)); exact HO123.out)).2.2); (case side2 => exact (Kd.S_reads' (n := r53.length) (A := Az124) (c := cz124) HO123.out).2.1); (case side3 => exact (Kd.S_reads' (n := r53.length) (A := Az58) (c := cz58) (by (with_reducible repeat (first | apply Kd.S_alloc | apply Kd.S_drewN | apply Kd.S_drew)); exact HO57.out)).2.2); (case side4 => exact (Kd.S_reads' (n := r53.length) (A := Az58) (c := cz58) HO57.out).2.1); rintro e w10 ⟨rfl, hb⟩; refine ⟨_, rfl, ?_⟩; have n1_ := Aside0.mk (Kd.S_below (by (with_reducible repeat (first | apply Kd.S_alloc | apply Kd.S_drewN | apply Kd.S_drew)); exact HO57.out) hb); have n2_ := Aside0.mk (Kd.S_below (by (with_reducible repeat (first | apply Kd.S_alloc | apply Kd.S_drewN | apply Kd.S_drew)); exact HO85.out) hb); have n3_ := Aside0.mk (Kd.S_below (by (with_reducible repeat (first | apply Kd.S_alloc | apply Kd.S_drewN | apply Kd.S_drew)); exact HO102.out) hb); have n4_ := Aside0.mk (Kd.S_below (by (with_reducible repeat (first | apply Kd.S_alloc | apply Kd.S_drewN | apply Kd.S_drew)); exact HO123.out) hb); have n5_ := Aside0.mk (blk_below (g := w.heap.size) (o := .cells #[.int .i64 a0_0, .int .i64 a0_1, .slice A0_2 l0_2.length c0_2] 24 (0, 0)) (by (with_reducible repeat (first | refine blk_drewN ?_ _ | refine blk_drew ?_ | refine blk_alloc ?_ _)); exact HX1.out) hb); have n6_ := Aside0.mk (blk_below (g := w.heap.size + 1) (o := .cells #[.int .i64 a1_0, .int .i64 a1_1, .slice A1_2 l1_2.length c1_2] 24 (0, 0)) (by (with_reducible repeat (first | refine blk_drewN ?_ _ | refine blk_drew ?_ | refine blk_alloc ?_ _)); exact HX2.out) hb); have n7_ := Aside0.mk (blk_below (g := gC68) (o := .cells #[.int .i64 r51, .int .i64 r52, .slice Az58 r53.length cz58] 27 (0, 0)) (by (with_reducible repeat (first | refine blk_drewN ?_ _ | refine blk_drew ?_ | refine blk_alloc ?_ _)); exact HX67.out) hb); have n8_ := Aside0.mk (blk_below (g := w7.heap.size) (o := .cells #[.int .i64 a0_0, .int .i64 a0_1, .slice Az86 l0_2.length cz86] 27 (0, 0)) (by (with_reducible repeat (first | refine blk_drewN ?_ _ | refine blk_drew ?_ | refine blk_alloc ?_ _)); exact HX99.out) hb); have n9_ := Aside0.mk (blk_below (g := w8.heap.size) (o := .cells #[.int .i64 a1_0, .int .i64 a1_1, .slice Az103 l1_2.length cz103] 27 (0, 0)) (by (with_reducible repeat (first | refine blk_drewN ?_ _ | refine blk_drew ?_ | refine blk_alloc ?_ _)); exact HX120.out) hb); have n10_ := Aside0.mk (blk_below (g := w9.heap.size) (o := .cells #[.int .i64 r51, .int .i64 r52, .slice Az124 r53.length cz124] 27 (0, 0)) (by repeat (first | exact blk_new_at (by simp) | (with_reducible refine blk_drewN ?_ _) | (with_reducible refine blk_drew ?_) | (with_reducible refine blk_alloc ?_ _))) hb); have n11_ := Aside0.mk (below_step (by repeat (first | (with_reducible first | exact HB.out | apply below_alloc | apply pw_below_drewN | apply below_drew1) | exact HB.out)) hb); have C147 : Aside0 (w9.heap.size + 1 ≤ w10.heap.size) := ⟨by have h_ := hb.size; (try simp at h_); omega⟩; have CCn_ := Aside0.mk (And.intro CC.out C147.out); clear CC; have CC := CCn_; clear CCn_; clear HO57; clear HO85; clear HO102; clear HO123; clear HX1; clear HX2; clear HX67; clear HX99; clear HX120; clear HB; clear hl125; clear hx126; clear hx127; clear hx128; clear hl129; clear hx130; clear hx131; clear hx132; clear hl133; clear hx134; clear hx135; clear hx136; clear hl137; clear hx138; clear hx139; clear hx140; clear hl141; clear hx142; clear hx143; clear hx144; have HO57 := n1_; clear n1_; have HO85 := n2_; clear n2_; have HO102 := n3_; clear n3_; have HO123 := n4_; clear n4_; have HX1 := n5_; clear n5_; have HX2 := n6_; clear n6_; have HX67 := n7_; clear n7_; have HX99 := n8_; clear n8_; have HX120 := n9_; clear n9_; have HX145 := n10_; clear n10_; have HB := n11_; clear n11_; (try clear hb); have hl148 : w.heap.size < w10.heap.size := blk_lt HX1.out; have hx149 : w10.cell? ⟨w.heap.size, 0, none⟩ = some (.int .i64 a0_0) := (blk_cell HX1.out 0).trans rfl; have hx150 : w10.cell? ⟨w.heap.size, 1, none⟩ = some (.int .i64 a0_1) := (blk_cell HX1.out 1).trans rfl; have hx151 : w10.cell? ⟨w.heap.size, 2, none⟩ = some (.slice A0_2 l0_2.length c0_2) := (blk_cell HX1.out 2).trans rfl; have hl152 : w.heap.size + 1 < w10.heap.size := blk_lt HX2.out; have hx153 : w10.cell? ⟨w.heap.size + 1, 0, none⟩ = some (.int .i64 a1_0) := (blk_cell HX2.out 0).trans rfl; have hx154 : w10.cell? ⟨w.heap.size + 1, 1, none⟩ = some (.int .i64 a1_1) := (blk_cell HX2.out 1).trans rfl; have hx155 : w10.cell? ⟨w.heap.size + 1, 2, none⟩ = some (.slice A1_2 l1_2.length c1_2) := (blk_cell HX2.out 2).trans rfl; have hl156 : gC68 < w10.heap.size := blk_lt HX67.out; have hx157 : w10.cell? ⟨gC68, 0, none⟩ = some (.int .i64 r51) := (blk_cell HX67.out 0).trans rfl; have hx158 : w10.cell? ⟨gC68, 1, none⟩ = some (.int .i64 r52) := (blk_cell HX67.out 1).trans rfl; have hx159 : w10.cell? ⟨gC68, 2, none⟩ = some (.slice Az58 r53.length cz58) := (blk_cell HX67.out 2).trans rfl; have hl160 : w7.heap.size < w10.heap.size := blk_lt HX99.out; have hx161 : w10.cell? ⟨w7.heap.size, 0, none⟩ = some (.int .i64 a0_0) := (blk_cell HX99.out 0).trans rfl; have hx162 : w10.cell? ⟨w7.heap.size, 1, none⟩ = some (.int .i64 a0_1) := (blk_cell HX99.out 1).trans rfl; have hx163 : w10.cell? ⟨w7.heap.size, 2, none⟩ = some (.slice Az86 l0_2.length cz86) := (blk_cell HX99.out 2).trans rfl; have hl164 : w8.heap.size < w10.heap.size := blk_lt HX120.out; have hx165 : w10.cell? ⟨w8.heap.size, 0, none⟩ = some (.int .i64 a1_0) := (blk_cell HX120.out 0).trans rfl; have hx166 : w10.cell? ⟨w8.heap.size, 1, none⟩ = some (.int .i64 a1_1) := (blk_cell HX120.out 1).trans rfl; have hx167 : w10.cell? ⟨w8.heap.size, 2, none⟩ = some (.slice Az103 l1_2.length cz103) := (blk_cell HX120.out 2).trans rfl; have hl168 : w9.heap.size < w10.heap.size := blk_lt HX145.out; have hx169 : w10.cell? ⟨w9.heap.size, 0, none⟩ = some (.int .i64 r51) := (blk_cell HX145.out 0).trans rfl; have hx170 : w10.cell? ⟨w9.heap.size, 1, none⟩ = some (.int .i64 r52) := (blk_cell HX145.out 1).trans rfl; have hx171 : w10.cell? ⟨w9.heap.size, 2, none⟩ = some (.slice Az124 r53.length cz124) := (blk_cell HX145.out 2).trans rfl))
  go_region_held3 (fun w' => w'.cell? ⟨w7.heap.size, 0, none⟩ = some (.int .i64 a0_0) ∧ w'.cell? ⟨w7.heap.size, 1, none⟩ = some (.int .i64 a0_1) ∧ w'.cell? ⟨w7.heap.size, 2, none⟩ = some (.slice Az86 l0_2.length cz86) ∧ w'.cell? ⟨w.heap.size, 0, none⟩ = some (.int .i64 a0_0) ∧ w'.cell? ⟨w.heap.size, 1, none⟩ = some (.int .i64 a0_1) ∧ w'.cell? ⟨w.heap.size, 2, none⟩ = some (.slice A0_2 l0_2.length c0_2)) (first | ((repeat' apply And.intro) <;> assumption) | go_keep) (first | (go_at_call 17; (with_reducible refine (laws_toMatrix.calls k a0_0 a0_1 _ _ l0_2 a0_0 a0_1 l0_2 _ ?side1 ?side2 A172.out).mono ?_); (case side1 => exact Kd.C_below HR0_2.out (by repeat (first | (with_reducible first | exact HB.out | apply below_alloc | apply pw_below_drewN | apply below_drew1) | exact HB.out))); (case side2 => exact HC0_2.out); rintro e w11 ⟨v100_, rfl, ho0_, hb⟩; have n1_ := Aside0.mk (Kd.S_below (by (with_reducible repeat (first | apply Kd.S_alloc | apply Kd.S_drewN | apply Kd.S_drew)); exact HO57.out) hb); have n2_ := Aside0.mk (Kd.S_below (by (with_reducible repeat (first | apply Kd.S_alloc | apply Kd.S_drewN | apply Kd.S_drew)); exact HO85.out) hb); have n3_ := Aside0.mk (Kd.S_below (by (with_reducible repeat (first | apply Kd.S_alloc | apply Kd.S_drewN | apply Kd.S_drew)); exact HO102.out) hb); have n4_ := Aside0.mk (Kd.S_below (by (with_reducible repeat (first | apply Kd.S_alloc | apply Kd.S_drewN | apply Kd.S_drew)); exact HO123.out) hb); have n5_ := Aside0.mk (blk_below (g := w.heap.size) (o := .cells #[.int .i64 a0_0, .int .i64 a0_1, .slice A0_2 l0_2.length c0_2] 24 (0, 0)) (by (with_reducible repeat (first | refine blk_drewN ?_ _ | refine blk_drew ?_ | refine blk_alloc ?_ _)); exact HX1.out) hb); have n6_ := Aside0.mk (blk_below (g := w.heap.size + 1) (o := .cells #[.int .i64 a1_0, .int .i64 a1_1, .slice A1_2 l1_2.length c1_2] 24 (0, 0)) (by (with_reducible repeat (first | refine blk_drewN ?_ _ | refine blk_drew ?_ | refine blk_alloc ?_ _)); exact HX2.out) hb); have n7_ := Aside0.mk (blk_below (g := gC68) (o := .cells #[.int .i64 r51, .int .i64 r52, .slice Az58 r53.length cz58] 27 (0, 0)) (by (with_reducible repeat (first | refine blk_drewN ?_ _ | refine blk_drew ?_ | refine blk_alloc ?_ _)); exact HX67.out) hb); have n8_ := Aside0.mk (blk_below (g := w7.heap.size) (o := .cells #[.int .i64 a0_0, .int .i64 a0_1, .slice Az86 l0_2.length cz86] 27 (0, 0)) (by (with_reducible repeat (first | refine blk_drewN ?_ _ | refine blk_drew ?_ | refine blk_alloc ?_ _)); exact HX99.out) hb); have n9_ := Aside0.mk (blk_below (g := w8.heap.size) (o := .cells #[.int .i64 a1_0, .int .i64 a1_1, .slice Az103 l1_2.length cz103] 27 (0, 0)) (by (with_reducible repeat (first | refine blk_drewN ?_ _ | refine blk_drew ?_ | refine blk_alloc ?_ _)); exact HX120.out) hb); have n10_ := Aside0.mk (blk_below (g := w9.heap.size) (o := .cells #[.int .i64 r51, .int .i64 r52, .slice Az124 r53.length cz124] 27 (0, 0)) (by (with_reducible repeat (first | refine blk_drewN ?_ _ | refine blk_drew ?_ | refine blk_alloc ?_ _)); exact HX145.out) hb); have n11_ := Aside0.mk (below_step (by repeat (first | (with_reducible first | exact HB.out | apply below_alloc | apply pw_below_drewN | apply below_drew1) | exact HB.out)) hb); have C173 : Aside0 (w10.heap.size ≤ w11.heap.size) := ⟨by have h_ := hb.size; (try simp at h_); omega⟩; have CCn_ := Aside0.mk (And.intro CC.out C173.out); clear CC; have CC := CCn_; clear CCn_; clear HO57; clear HO85; clear HO102; clear HO123; clear HX1; clear HX2; clear HX67; clear HX99; clear HX120; clear HX145; clear HB; clear hl148; clear hx149; clear hx150; clear hx151; clear hl152; clear hx153; clear hx154; clear hx155; clear hl156; clear hx157; clear hx158; clear hx159; clear hl160; clear hx161; clear hx162; clear hx163; clear hl164; clear hx165; clear hx166; clear hx167; clear hl168; clear hx169; clear hx170; clear hx171; have HO57 := n1_; clear n1_; have HO85 := n2_; clear n2_; have HO102 := n3_; clear n3_; have HO123 := n4_; clear n4_; have HX1 := n5_; clear n5_; have HX2 := n6_; clear n6_; have HX67 := n7_; clear n7_; have HX99 := n8_; clear n8_; have HX120 := n9_; clear n9_; have HX145 := n10_; clear n10_; have HB := n11_; clear n11_; have HO174 := Aside0.mk (Kd.S_lower (base' := w.heap.size) (Kd.S_mono (Kd.S_bound ho0_) (ok' := fun k_ => w10.heap.size ≤ k_ ∧ k_ < w11.heap.size) (fun k_ hk_ => ⟨by have h_ := hk_.2.1; (try simp at h_); omega, hk_.2.2.1⟩)) (by have := CC.out; first | omega | (simp; done) | (simp; omega))); obtain ⟨Az175, cz175, ez175⟩ := Kd.S_slice HO174.out; subst ez175; (try clear hb); (try clear ho0_); have hl176 : w.heap.size < w11.heap.size := blk_lt HX1.out; have hx177 : w11.cell? ⟨w.heap.size, 0, none⟩ = some (.int .i64 a0_0) := (blk_cell HX1.out 0).trans rfl; have hx178 : w11.cell? ⟨w.heap.size, 1, none⟩ = some (.int .i64 a0_1) := (blk_cell HX1.out 1).trans rfl; have hx179 : w11.cell? ⟨w.heap.size, 2, none⟩ = some (.slice A0_2 l0_2.length c0_2) := (blk_cell HX1.out 2).trans rfl; have hl180 : w.heap.size + 1 < w11.heap.size := blk_lt HX2.out; have hx181 : w11.cell? ⟨w.heap.size + 1, 0, none⟩ = some (.int .i64 a1_0) := (blk_cell HX2.out 0).trans rfl; have hx182 : w11.cell? ⟨w.heap.size + 1, 1, none⟩ = some (.int .i64 a1_1) := (blk_cell HX2.out 1).trans rfl; have hx183 : w11.cell? ⟨w.heap.size + 1, 2, none⟩ = some (.slice A1_2 l1_2.length c1_2) := (blk_cell HX2.out 2).trans rfl; have hl184 : gC68 < w11.heap.size := blk_lt HX67.out; have hx185 : w11.cell? ⟨gC68, 0, none⟩ = some (.int .i64 r51) := (blk_cell HX67.out 0).trans rfl; have hx186 : w11.cell? ⟨gC68, 1, none⟩ = some (.int .i64 r52) := (blk_cell HX67.out 1).trans rfl; have hx187 : w11.cell? ⟨gC68, 2, none⟩ = some (.slice Az58 r53.length cz58) := (blk_cell HX67.out 2).trans rfl; have hl188 : w7.heap.size < w11.heap.size := blk_lt HX99.out; have hx189 : w11.cell? ⟨w7.heap.size, 0, none⟩ = some (.int .i64 a0_0) := (blk_cell HX99.out 0).trans rfl; have hx190 : w11.cell? ⟨w7.heap.size, 1, none⟩ = some (.int .i64 a0_1) := (blk_cell HX99.out 1).trans rfl; have hx191 : w11.cell? ⟨w7.heap.size, 2, none⟩ = some (.slice Az86 l0_2.length cz86) := (blk_cell HX99.out 2).trans rfl; have hl192 : w8.heap.size < w11.heap.size := blk_lt HX120.out; have hx193 : w11.cell? ⟨w8.heap.size, 0, none⟩ = some (.int .i64 a1_0) := (blk_cell HX120.out 0).trans rfl; have hx194 : w11.cell? ⟨w8.heap.size, 1, none⟩ = some (.int .i64 a1_1) := (blk_cell HX120.out 1).trans rfl; have hx195 : w11.cell? ⟨w8.heap.size, 2, none⟩ = some (.slice Az103 l1_2.length cz103) := (blk_cell HX120.out 2).trans rfl; have hl196 : w9.heap.size < w11.heap.size := blk_lt HX145.out; have hx197 : w11.cell? ⟨w9.heap.size, 0, none⟩ = some (.int .i64 r51) := (blk_cell HX145.out 0).trans rfl; have hx198 : w11.cell? ⟨w9.heap.size, 1, none⟩ = some (.int .i64 r52) := (blk_cell HX145.out 1).trans rfl; have hx199 : w11.cell? ⟨w9.heap.size, 2, none⟩ = some (.slice Az124 r53.length cz124) := (blk_cell HX145.out 2).trans rfl) | (go_at_call 19; (with_reducible refine (laws_eqMatrix.calls k a0_0 a0_1 _ _ l0_2 a0_0 a0_1 _ _ l0_2 true _ ?side1 ?side2 ?side3 ?side4 A200.out).mono ?_); (case side1 => exact (Kd.S_reads' (n := l0_2.length) (A := Az86) (c := cz86) (by (with_reducible repeat (first | apply Kd.S_alloc | apply Kd.S_drewN | apply Kd.S_drew)); exact HO85.out)).2.2); (case side2 => exact (Kd.S_reads' (n := l0_2.length) (A := Az86) (c := cz86) HO85.out).2.1); (case side3 => exact (Kd.S_reads' (n := l0_2.length) (A := Az175) (c := cz175) (by (with_reducible repeat (first | apply Kd.S_alloc | apply Kd.S_drewN | apply Kd.S_drew)); exact HO174.out)).2.2); (case side4 => exact (Kd.S_reads' (n := l0_2.length) (A := Az175) (c := cz175) HO174.out).2.1); rintro e w12 ⟨rfl, hb⟩; have n1_ := Aside0.mk (Kd.S_below (by (with_reducible repeat (first | apply Kd.S_alloc | apply Kd.S_drewN | apply Kd.S_drew)); exact HO57.out) hb); have n2_ := Aside0.mk (Kd.S_below (by (with_reducible repeat (first | apply Kd.S_alloc | apply Kd.S_drewN | apply Kd.S_drew)); exact HO85.out) hb); have n3_ := Aside0.mk (Kd.S_below (by (with_reducible repeat (first | apply Kd.S_alloc | apply Kd.S_drewN | apply Kd.S_drew)); exact HO102.out) hb); have n4_ := Aside0.mk (Kd.S_below (by (with_reducible repeat (first | apply Kd.S_alloc | apply Kd.S_drewN | apply Kd.S_drew)); exact HO123.out) hb); have n5_ := Aside0.mk (Kd.S_below (by (with_reducible repeat (first | apply Kd.S_alloc | apply Kd.S_drewN | apply Kd.S_drew)); exact HO174.out) hb); have n6_ := Aside0.mk (blk_below (g := w.heap.size) (o := .cells #[.int .i64 a0_0, .int .i64 a0_1, .slice A0_2 l0_2.length c0_2] 24 (0, 0)) (by (with_reducible repeat (first | refine blk_drewN ?_ _ | refine blk_drew ?_ | refine blk_alloc ?_ _)); exact HX1.out) hb); have n7_ := Aside0.mk (blk_below (g := w.heap.size + 1) (o := .cells #[.int .i64 a1_0, .int .i64 a1_1, .slice A1_2 l1_2.length c1_2] 24 (0, 0)) (by (with_reducible repeat (first | refine blk_drewN ?_ _ | refine blk_drew ?_ | refine blk_alloc ?_ _)); exact HX2.out) hb); have n8_ := Aside0.mk (blk_below (g := gC68) (o := .cells #[.int .i64 r51, .int .i64 r52, .slice Az58 r53.length cz58] 27 (0, 0)) (by (with_reducible repeat (first | refine blk_drewN ?_ _ | refine blk_drew ?_ | refine blk_alloc ?_ _)); exact HX67.out) hb); have n9_ := Aside0.mk (blk_below (g := w7.heap.size) (o := .cells #[.int .i64 a0_0, .int .i64 a0_1, .slice Az86 l0_2.length cz86] 27 (0, 0)) (by (with_reducible repeat (first | refine blk_drewN ?_ _ | refine blk_drew ?_ | refine blk_alloc ?_ _)); exact HX99.out) hb); have n10_ := Aside0.mk (blk_below (g := w8.heap.size) (o := .cells #[.int .i64 a1_0, .int .i64 a1_1, .slice Az103 l1_2.length cz103] 27 (0, 0)) (by (with_reducible repeat (first | refine blk_drewN ?_ _ | refine blk_drew ?_ | refine blk_alloc ?_ _)); exact HX120.out) hb); have n11_ := Aside0.mk (blk_below (g := w9.heap.size) (o := .cells #[.int .i64 r51, .int .i64 r52, .slice Az124 r53.length cz124] 27 (0, 0)) (by (with_reducible repeat (first | refine blk_drewN ?_ _ | refine blk_drew ?_ | refine blk_alloc ?_ _)); exact HX145.out) hb); have n12_ := Aside0.mk (below_step (by repeat (first | (with_reducible first | exact HB.out | apply below_alloc | apply pw_below_drewN | apply below_drew1) | exact HB.out)) hb); have C201 : Aside0 (w11.heap.size ≤ w12.heap.size) := ⟨by have h_ := hb.size; (try simp at h_); omega⟩; have CCn_ := Aside0.mk (And.intro CC.out C201.out); clear CC; have CC := CCn_; clear CCn_; clear HO57; clear HO85; clear HO102; clear HO123; clear HO174; clear HX1; clear HX2; clear HX67; clear HX99; clear HX120; clear HX145; clear HB; clear hl176; clear hx177; clear hx178; clear hx179; clear hl180; clear hx181; clear hx182; clear hx183; clear hl184; clear hx185; clear hx186; clear hx187; clear hl188; clear hx189; clear hx190; clear hx191; clear hl192; clear hx193; clear hx194; clear hx195; clear hl196; clear hx197; clear hx198; clear hx199; have HO57 := n1_; clear n1_; have HO85 := n2_; clear n2_; have HO102 := n3_; clear n3_; have HO123 := n4_; clear n4_; have HO174 := n5_; clear n5_; have HX1 := n6_; clear n6_; have HX2 := n7_; clear n7_; have HX67 := n8_; clear n8_; have HX99 := n9_; clear n9_; have HX120 := n10_; clear n10_; have HX145 := n11_; clear n11_; have HB := n12_; clear n12_; (try clear hb); have hl202 : w.heap.size < w12.heap.size := blk_lt HX1.out; have hx203 : w12.cell? ⟨w.heap.size, 0, none⟩ = some (.int .i64 a0_0) := (blk_cell HX1.out 0).trans rfl; have hx204 : w12.cell? ⟨w.heap.size, 1, none⟩ = some (.int .i64 a0_1) := (blk_cell HX1.out 1).trans rfl; have hx205 : w12.cell? ⟨w.heap.size, 2, none⟩ = some (.slice A0_2 l0_2.length c0_2) := (blk_cell HX1.out 2).trans rfl; have hl206 : w.heap.size + 1 < w12.heap.size := blk_lt HX2.out; have hx207 : w12.cell? ⟨w.heap.size + 1, 0, none⟩ = some (.int .i64 a1_0) := (blk_cell HX2.out 0).trans rfl; have hx208 : w12.cell? ⟨w.heap.size + 1, 1, none⟩ = some (.int .i64 a1_1) := (blk_cell HX2.out 1).trans rfl; have hx209 : w12.cell? ⟨w.heap.size + 1, 2, none⟩ = some (.slice A1_2 l1_2.length c1_2) := (blk_cell HX2.out 2).trans rfl; have hl210 : gC68 < w12.heap.size := blk_lt HX67.out; have hx211 : w12.cell? ⟨gC68, 0, none⟩ = some (.int .i64 r51) := (blk_cell HX67.out 0).trans rfl; have hx212 : w12.cell? ⟨gC68, 1, none⟩ = some (.int .i64 r52) := (blk_cell HX67.out 1).trans rfl; have hx213 : w12.cell? ⟨gC68, 2, none⟩ = some (.slice Az58 r53.length cz58) := (blk_cell HX67.out 2).trans rfl; have hl214 : w7.heap.size < w12.heap.size := blk_lt HX99.out; have hx215 : w12.cell? ⟨w7.heap.size, 0, none⟩ = some (.int .i64 a0_0) := (blk_cell HX99.out 0).trans rfl; have hx216 : w12.cell? ⟨w7.heap.size, 1, none⟩ = some (.int .i64 a0_1) := (blk_cell HX99.out 1).trans rfl; have hx217 : w12.cell? ⟨w7.heap.size, 2, none⟩ = some (.slice Az86 l0_2.length cz86) := (blk_cell HX99.out 2).trans rfl; have hl218 : w8.heap.size < w12.heap.size := blk_lt HX120.out; have hx219 : w12.cell? ⟨w8.heap.size, 0, none⟩ = some (.int .i64 a1_0) := (blk_cell HX120.out 0).trans rfl; have hx220 : w12.cell? ⟨w8.heap.size, 1, none⟩ = some (.int .i64 a1_1) := (blk_cell HX120.out 1).trans rfl; have hx221 : w12.cell? ⟨w8.heap.size, 2, none⟩ = some (.slice Az103 l1_2.length cz103) := (blk_cell HX120.out 2).trans rfl; have hl222 : w9.heap.size < w12.heap.size := blk_lt HX145.out; have hx223 : w12.cell? ⟨w9.heap.size, 0, none⟩ = some (.int .i64 r51) := (blk_cell HX145.out 0).trans rfl; have hx224 : w12.cell? ⟨w9.heap.size, 1, none⟩ = some (.int .i64 r52) := (blk_cell HX145.out 1).trans rfl; have hx225 : w12.cell? ⟨w9.heap.size, 2, none⟩ = some (.slice Az124 r53.length cz124) := (blk_cell HX145.out 2).trans rfl))
  go_wp2
  go_region_held3 (fun w' => w'.cell? ⟨w8.heap.size, 0, none⟩ = some (.int .i64 a1_0) ∧ w'.cell? ⟨w8.heap.size, 1, none⟩ = some (.int .i64 a1_1) ∧ w'.cell? ⟨w8.heap.size, 2, none⟩ = some (.slice Az103 l1_2.length cz103) ∧ w'.cell? ⟨w.heap.size + 1, 0, none⟩ = some (.int .i64 a1_0) ∧ w'.cell? ⟨w.heap.size + 1, 1, none⟩ = some (.int .i64 a1_1) ∧ w'.cell? ⟨w.heap.size + 1, 2, none⟩ = some (.slice A1_2 l1_2.length c1_2)) (first | ((repeat' apply And.intro) <;> assumption) | go_keep) (first | (go_at_call 17; (with_reducible refine (laws_toMatrix.calls k a1_0 a1_1 _ _ l1_2 a1_0 a1_1 l1_2 _ ?side1 ?side2 A226.out).mono ?_); (case side1 => exact Kd.C_below HR1_2.out (by repeat (first | (with_reducible first | exact HB.out | apply below_alloc | apply pw_below_drewN | apply below_drew1) | exact HB.out))); (case side2 => exact HC1_2.out); rintro e w13 ⟨v100_, rfl, ho0_, hb⟩; have n1_ := Aside0.mk (Kd.S_below (by (with_reducible repeat (first | apply Kd.S_alloc | apply Kd.S_drewN | apply Kd.S_drew)); exact HO57.out) hb); have n2_ := Aside0.mk (Kd.S_below (by (with_reducible repeat (first | apply Kd.S_alloc | apply Kd.S_drewN | apply Kd.S_drew)); exact HO85.out) hb); have n3_ := Aside0.mk (Kd.S_below (by (with_reducible repeat (first | apply Kd.S_alloc | apply Kd.S_drewN | apply Kd.S_drew)); exact HO102.out) hb); have n4_ := Aside0.mk (Kd.S_below (by (with_reducible repeat (first | apply Kd.S_alloc | apply Kd.S_drewN | apply Kd.S_drew)); exact HO123.out) hb); have n5_ := Aside0.mk (blk_below (g := w.heap.size) (o := .cells #[.int .i64 a0_0, .int .i64 a0_1, .slice A0_2 l0_2.length c0_2] 24 (0, 0)) (by (with_reducible repeat (first | refine blk_drewN ?_ _ | refine blk_drew ?_ | refine blk_alloc ?_ _)); exact HX1.out) hb); have n6_ := Aside0.mk (blk_below (g := w.heap.size + 1) (o := .cells #[.int .i64 a1_0, .int .i64 a1_1, .slice A1_2 l1_2.length c1_2] 24 (0, 0)) (by (with_reducible repeat (first | refine blk_drewN ?_ _ | refine blk_drew ?_ | refine blk_alloc ?_ _)); exact HX2.out) hb); have n7_ := Aside0.mk (blk_below (g := gC68) (o := .cells #[.int .i64 r51, .int .i64 r52, .slice Az58 r53.length cz58] 27 (0, 0)) (by (with_reducible repeat (first | refine blk_drewN ?_ _ | refine blk_drew ?_ | refine blk_alloc ?_ _)); exact HX67.out) hb); have n8_ := Aside0.mk (blk_below (g := w7.heap.size) (o := .cells #[.int .i64 a0_0, .int .i64 a0_1, .slice Az86 l0_2.length cz86] 27 (0, 0)) (by (with_reducible repeat (first | refine blk_drewN ?_ _ | refine blk_drew ?_ | refine blk_alloc ?_ _)); exact HX99.out) hb); have n9_ := Aside0.mk (blk_below (g := w8.heap.size) (o := .cells #[.int .i64 a1_0, .int .i64 a1_1, .slice Az103 l1_2.length cz103] 27 (0, 0)) (by (with_reducible repeat (first | refine blk_drewN ?_ _ | refine blk_drew ?_ | refine blk_alloc ?_ _)); exact HX120.out) hb); have n10_ := Aside0.mk (blk_below (g := w9.heap.size) (o := .cells #[.int .i64 r51, .int .i64 r52, .slice Az124 r53.length cz124] 27 (0, 0)) (by (with_reducible repeat (first | refine blk_drewN ?_ _ | refine blk_drew ?_ | refine blk_alloc ?_ _)); exact HX145.out) hb); have n11_ := Aside0.mk (below_step (by repeat (first | (with_reducible first | exact HB.out | apply below_alloc | apply pw_below_drewN | apply below_drew1) | exact HB.out)) hb); have C227 : Aside0 (w12.heap.size ≤ w13.heap.size) := ⟨by have h_ := hb.size; (try simp at h_); omega⟩; have CCn_ := Aside0.mk (And.intro CC.out C227.out); clear CC; have CC := CCn_; clear CCn_; clear HO57; clear HO85; clear HO102; clear HO123; clear HX1; clear HX2; clear HX67; clear HX99; clear HX120; clear HX145; clear HB; clear hl202; clear hx203; clear hx204; clear hx205; clear hl206; clear hx207; clear hx208; clear hx209; clear hl210; clear hx211; clear hx212; clear hx213; clear hl214; clear hx215; clear hx216; clear hx217; clear hl218; clear hx219; clear hx220; clear hx221; clear hl222; clear hx223; clear hx224; clear hx225; have HO57 := n1_; clear n1_; have HO85 := n2_; clear n2_; have HO102 := n3_; clear n3_; have HO123 := n4_; clear n4_; have HX1 := n5_; clear n5_; have HX2 := n6_; clear n6_; have HX67 := n7_; clear n7_; have HX99 := n8_; clear n8_; have HX120 := n9_; clear n9_; have HX145 := n10_; clear n10_; have HB := n11_; clear n11_; have HO228 := Aside0.mk (Kd.S_lower (base' := w.heap.size) (Kd.S_mono (Kd.S_bound ho0_) (ok' := fun k_ => w12.heap.size ≤ k_ ∧ k_ < w13.heap.size) (fun k_ hk_ => ⟨by have h_ := hk_.2.1; (try simp at h_); omega, hk_.2.2.1⟩)) (by have := CC.out; first | omega | (simp; done) | (simp; omega))); obtain ⟨Az229, cz229, ez229⟩ := Kd.S_slice HO228.out; subst ez229; (try clear hb); (try clear ho0_); have hl230 : w.heap.size < w13.heap.size := blk_lt HX1.out; have hx231 : w13.cell? ⟨w.heap.size, 0, none⟩ = some (.int .i64 a0_0) := (blk_cell HX1.out 0).trans rfl; have hx232 : w13.cell? ⟨w.heap.size, 1, none⟩ = some (.int .i64 a0_1) := (blk_cell HX1.out 1).trans rfl; have hx233 : w13.cell? ⟨w.heap.size, 2, none⟩ = some (.slice A0_2 l0_2.length c0_2) := (blk_cell HX1.out 2).trans rfl; have hl234 : w.heap.size + 1 < w13.heap.size := blk_lt HX2.out; have hx235 : w13.cell? ⟨w.heap.size + 1, 0, none⟩ = some (.int .i64 a1_0) := (blk_cell HX2.out 0).trans rfl; have hx236 : w13.cell? ⟨w.heap.size + 1, 1, none⟩ = some (.int .i64 a1_1) := (blk_cell HX2.out 1).trans rfl; have hx237 : w13.cell? ⟨w.heap.size + 1, 2, none⟩ = some (.slice A1_2 l1_2.length c1_2) := (blk_cell HX2.out 2).trans rfl; have hl238 : gC68 < w13.heap.size := blk_lt HX67.out; have hx239 : w13.cell? ⟨gC68, 0, none⟩ = some (.int .i64 r51) := (blk_cell HX67.out 0).trans rfl; have hx240 : w13.cell? ⟨gC68, 1, none⟩ = some (.int .i64 r52) := (blk_cell HX67.out 1).trans rfl; have hx241 : w13.cell? ⟨gC68, 2, none⟩ = some (.slice Az58 r53.length cz58) := (blk_cell HX67.out 2).trans rfl; have hl242 : w7.heap.size < w13.heap.size := blk_lt HX99.out; have hx243 : w13.cell? ⟨w7.heap.size, 0, none⟩ = some (.int .i64 a0_0) := (blk_cell HX99.out 0).trans rfl; have hx244 : w13.cell? ⟨w7.heap.size, 1, none⟩ = some (.int .i64 a0_1) := (blk_cell HX99.out 1).trans rfl; have hx245 : w13.cell? ⟨w7.heap.size, 2, none⟩ = some (.slice Az86 l0_2.length cz86) := (blk_cell HX99.out 2).trans rfl; have hl246 : w8.heap.size < w13.heap.size := blk_lt HX120.out; have hx247 : w13.cell? ⟨w8.heap.size, 0, none⟩ = some (.int .i64 a1_0) := (blk_cell HX120.out 0).trans rfl; have hx248 : w13.cell? ⟨w8.heap.size, 1, none⟩ = some (.int .i64 a1_1) := (blk_cell HX120.out 1).trans rfl; have hx249 : w13.cell? ⟨w8.heap.size, 2, none⟩ = some (.slice Az103 l1_2.length cz103) := (blk_cell HX120.out 2).trans rfl; have hl250 : w9.heap.size < w13.heap.size := blk_lt HX145.out; have hx251 : w13.cell? ⟨w9.heap.size, 0, none⟩ = some (.int .i64 r51) := (blk_cell HX145.out 0).trans rfl; have hx252 : w13.cell? ⟨w9.heap.size, 1, none⟩ = some (.int .i64 r52) := (blk_cell HX145.out 1).trans rfl; have hx253 : w13.cell? ⟨w9.heap.size, 2, none⟩ = some (.slice Az124 r53.length cz124) := (blk_cell HX145.out 2).trans rfl) | (go_at_call 19; (with_reducible refine (laws_eqMatrix.calls k a1_0 a1_1 _ _ l1_2 a1_0 a1_1 _ _ l1_2 true _ ?side1 ?side2 ?side3 ?side4 A254.out).mono ?_); (case side1 => exact (Kd.S_reads' (n := l1_2.length) (A := Az103) (c := cz103) (by (with_reducible repeat (first | apply Kd.S_alloc | apply Kd.S_drewN | apply Kd.S_drew)); exact HO102.out)).2.2); (case side2 => exact (Kd.S_reads' (n := l1_2.length) (A := Az103) (c := cz103) HO102.out).2.1); (case side3 => exact (Kd.S_reads' (n := l1_2.length) (A := Az229) (c := cz229) (by (with_reducible repeat (first | apply Kd.S_alloc | apply Kd.S_drewN | apply Kd.S_drew)); exact HO228.out)).2.2); (case side4 => exact (Kd.S_reads' (n := l1_2.length) (A := Az229) (c := cz229) HO228.out).2.1); rintro e w14 ⟨rfl, hb⟩; have n1_ := Aside0.mk (Kd.S_below (by (with_reducible repeat (first | apply Kd.S_alloc | apply Kd.S_drewN | apply Kd.S_drew)); exact HO57.out) hb); have n2_ := Aside0.mk (Kd.S_below (by (with_reducible repeat (first | apply Kd.S_alloc | apply Kd.S_drewN | apply Kd.S_drew)); exact HO85.out) hb); have n3_ := Aside0.mk (Kd.S_below (by (with_reducible repeat (first | apply Kd.S_alloc | apply Kd.S_drewN | apply Kd.S_drew)); exact HO102.out) hb); have n4_ := Aside0.mk (Kd.S_below (by (with_reducible repeat (first | apply Kd.S_alloc | apply Kd.S_drewN | apply Kd.S_drew)); exact HO123.out) hb); have n5_ := Aside0.mk (Kd.S_below (by (with_reducible repeat (first | apply Kd.S_alloc | apply Kd.S_drewN | apply Kd.S_drew)); exact HO228.out) hb); have n6_ := Aside0.mk (blk_below (g := w.heap.size) (o := .cells #[.int .i64 a0_0, .int .i64 a0_1, .slice A0_2 l0_2.length c0_2] 24 (0, 0)) (by (with_reducible repeat (first | refine blk_drewN ?_ _ | refine blk_drew ?_ | refine blk_alloc ?_ _)); exact HX1.out) hb); have n7_ := Aside0.mk (blk_below (g := w.heap.size + 1) (o := .cells #[.int .i64 a1_0, .int .i64 a1_1, .slice A1_2 l1_2.length c1_2] 24 (0, 0)) (by (with_reducible repeat (first | refine blk_drewN ?_ _ | refine blk_drew ?_ | refine blk_alloc ?_ _)); exact HX2.out) hb); have n8_ := Aside0.mk (blk_below (g := gC68) (o := .cells #[.int .i64 r51, .int .i64 r52, .slice Az58 r53.length cz58] 27 (0, 0)) (by (with_reducible repeat (first | refine blk_drewN ?_ _ | refine blk_drew ?_ | refine blk_alloc ?_ _)); exact HX67.out) hb); have n9_ := Aside0.mk (blk_below (g := w7.heap.size) (o := .cells #[.int .i64 a0_0, .int .i64 a0_1, .slice Az86 l0_2.length cz86] 27 (0, 0)) (by (with_reducible repeat (first | refine blk_drewN ?_ _ | refine blk_drew ?_ | refine blk_alloc ?_ _)); exact HX99.out) hb); have n10_ := Aside0.mk (blk_below (g := w8.heap.size) (o := .cells #[.int .i64 a1_0, .int .i64 a1_1, .slice Az103 l1_2.length cz103] 27 (0, 0)) (by (with_reducible repeat (first | refine blk_drewN ?_ _ | refine blk_drew ?_ | refine blk_alloc ?_ _)); exact HX120.out) hb); have n11_ := Aside0.mk (blk_below (g := w9.heap.size) (o := .cells #[.int .i64 r51, .int .i64 r52, .slice Az124 r53.length cz124] 27 (0, 0)) (by (with_reducible repeat (first | refine blk_drewN ?_ _ | refine blk_drew ?_ | refine blk_alloc ?_ _)); exact HX145.out) hb); have n12_ := Aside0.mk (below_step (by repeat (first | (with_reducible first | exact HB.out | apply below_alloc | apply pw_below_drewN | apply below_drew1) | exact HB.out)) hb); have C255 : Aside0 (w13.heap.size ≤ w14.heap.size) := ⟨by have h_ := hb.size; (try simp at h_); omega⟩; have CCn_ := Aside0.mk (And.intro CC.out C255.out); clear CC; have CC := CCn_; clear CCn_; clear HO57; clear HO85; clear HO102; clear HO123; clear HO228; clear HX1; clear HX2; clear HX67; clear HX99; clear HX120; clear HX145; clear HB; clear hl230; clear hx231; clear hx232; clear hx233; clear hl234; clear hx235; clear hx236; clear hx237; clear hl238; clear hx239; clear hx240; clear hx241; clear hl242; clear hx243; clear hx244; clear hx245; clear hl246; clear hx247; clear hx248; clear hx249; clear hl250; clear hx251; clear hx252; clear hx253; have HO57 := n1_; clear n1_; have HO85 := n2_; clear n2_; have HO102 := n3_; clear n3_; have HO123 := n4_; clear n4_; have HO228 := n5_; clear n5_; have HX1 := n6_; clear n6_; have HX2 := n7_; clear n7_; have HX67 := n8_; clear n8_; have HX99 := n9_; clear n9_; have HX120 := n10_; clear n10_; have HX145 := n11_; clear n11_; have HB := n12_; clear n12_; (try clear hb); have hl256 : w.heap.size < w14.heap.size := blk_lt HX1.out; have hx257 : w14.cell? ⟨w.heap.size, 0, none⟩ = some (.int .i64 a0_0) := (blk_cell HX1.out 0).trans rfl; have hx258 : w14.cell? ⟨w.heap.size, 1, none⟩ = some (.int .i64 a0_1) := (blk_cell HX1.out 1).trans rfl; have hx259 : w14.cell? ⟨w.heap.size, 2, none⟩ = some (.slice A0_2 l0_2.length c0_2) := (blk_cell HX1.out 2).trans rfl; have hl260 : w.heap.size + 1 < w14.heap.size := blk_lt HX2.out; have hx261 : w14.cell? ⟨w.heap.size + 1, 0, none⟩ = some (.int .i64 a1_0) := (blk_cell HX2.out 0).trans rfl; have hx262 : w14.cell? ⟨w.heap.size + 1, 1, none⟩ = some (.int .i64 a1_1) := (blk_cell HX2.out 1).trans rfl; have hx263 : w14.cell? ⟨w.heap.size + 1, 2, none⟩ = some (.slice A1_2 l1_2.length c1_2) := (blk_cell HX2.out 2).trans rfl; have hl264 : gC68 < w14.heap.size := blk_lt HX67.out; have hx265 : w14.cell? ⟨gC68, 0, none⟩ = some (.int .i64 r51) := (blk_cell HX67.out 0).trans rfl; have hx266 : w14.cell? ⟨gC68, 1, none⟩ = some (.int .i64 r52) := (blk_cell HX67.out 1).trans rfl; have hx267 : w14.cell? ⟨gC68, 2, none⟩ = some (.slice Az58 r53.length cz58) := (blk_cell HX67.out 2).trans rfl; have hl268 : w7.heap.size < w14.heap.size := blk_lt HX99.out; have hx269 : w14.cell? ⟨w7.heap.size, 0, none⟩ = some (.int .i64 a0_0) := (blk_cell HX99.out 0).trans rfl; have hx270 : w14.cell? ⟨w7.heap.size, 1, none⟩ = some (.int .i64 a0_1) := (blk_cell HX99.out 1).trans rfl; have hx271 : w14.cell? ⟨w7.heap.size, 2, none⟩ = some (.slice Az86 l0_2.length cz86) := (blk_cell HX99.out 2).trans rfl; have hl272 : w8.heap.size < w14.heap.size := blk_lt HX120.out; have hx273 : w14.cell? ⟨w8.heap.size, 0, none⟩ = some (.int .i64 a1_0) := (blk_cell HX120.out 0).trans rfl; have hx274 : w14.cell? ⟨w8.heap.size, 1, none⟩ = some (.int .i64 a1_1) := (blk_cell HX120.out 1).trans rfl; have hx275 : w14.cell? ⟨w8.heap.size, 2, none⟩ = some (.slice Az103 l1_2.length cz103) := (blk_cell HX120.out 2).trans rfl; have hl276 : w9.heap.size < w14.heap.size := blk_lt HX145.out; have hx277 : w14.cell? ⟨w9.heap.size, 0, none⟩ = some (.int .i64 r51) := (blk_cell HX145.out 0).trans rfl; have hx278 : w14.cell? ⟨w9.heap.size, 1, none⟩ = some (.int .i64 r52) := (blk_cell HX145.out 1).trans rfl; have hx279 : w14.cell? ⟨w9.heap.size, 2, none⟩ = some (.slice Az124 r53.length cz124) := (blk_cell HX145.out 2).trans rfl))
  go_wp2_with (first | ((with_reducible refine gate_callee (f := 26) rfl ?_); refine goesL_ (some 66) rfl rfl Try.func26 (by kernel_rfl) rfl #[.agg #[.int .i64 a0_0, .int .i64 a0_1, .slice Az86 l0_2.length cz86], .int .i64 1] rfl (by (try simp only [List.map_toArray, List.map_cons, List.map_nil]); first | done | rfl | (simp only [List.length_drop, List.length_take]; rfl)) ?_; (with_reducible refine (laws_markMatrix.callsM k a0_0 a0_1 (fun k_ => w6.heap.size ≤ k_ ∧ k_ < w7.heap.size) (.slice Az86 l0_2.length cz86) l0_2 1 m280 ys281 w _ ?side1 ?side2 A282.out).mono ?_); (case side1 => repeat (first | (with_reducible first | exact HB.out | apply below_alloc | apply pw_below_drewN | apply below_drew1) | exact HB.out)); (case side2 => exact (by (with_reducible repeat (first | apply Kd.S_alloc | apply Kd.S_drewN | apply Kd.S_drew)); exact HO85.out)); rintro e w15 ⟨rfl, hm0_, hbk, hk⟩; refine ⟨_, rfl, ?_⟩; have n1_ := Aside0.mk (Kd.S_kept (by (with_reducible repeat (first | apply Kd.S_alloc | apply Kd.S_drewN | apply Kd.S_drew)); exact HO57.out) hk (fun k_ hk_ hs_ => by have := CC.out; have h1_ := hk_; have h2_ := hs_; omega)); have n2_ := Aside0.mk (Kd.S_kept (by (with_reducible repeat (first | apply Kd.S_alloc | apply Kd.S_drewN | apply Kd.S_drew)); exact HO102.out) hk (fun k_ hk_ hs_ => by have := CC.out; have h1_ := hk_; have h2_ := hs_; omega)); have n3_ := Aside0.mk (Kd.S_kept (by (with_reducible repeat (first | apply Kd.S_alloc | apply Kd.S_drewN | apply Kd.S_drew)); exact HO123.out) hk (fun k_ hk_ hs_ => by have := CC.out; have h1_ := hk_; have h2_ := hs_; omega)); have n4_ := Aside0.mk (blk_kept (g := w.heap.size) (o := .cells #[.int .i64 a0_0, .int .i64 a0_1, .slice A0_2 l0_2.length c0_2] 24 (0, 0)) (by (with_reducible repeat (first | refine blk_drewN ?_ _ | refine blk_drew ?_ | refine blk_alloc ?_ _)); exact HX1.out) hk (fun hs_ => by have := CC.out; have h2_ := hs_; omega)); have n5_ := Aside0.mk (blk_kept (g := w.heap.size + 1) (o := .cells #[.int .i64 a1_0, .int .i64 a1_1, .slice A1_2 l1_2.length c1_2] 24 (0, 0)) (by (with_reducible repeat (first | refine blk_drewN ?_ _ | refine blk_drew ?_ | refine blk_alloc ?_ _)); exact HX2.out) hk (fun hs_ => by have := CC.out; have h2_ := hs_; omega)); have n6_ := Aside0.mk (blk_kept (g := gC68) (o := .cells #[.int .i64 r51, .int .i64 r52, .slice Az58 r53.length cz58] 27 (0, 0)) (by (with_reducible repeat (first | refine blk_drewN ?_ _ | refine blk_drew ?_ | refine blk_alloc ?_ _)); exact HX67.out) hk (fun hs_ => by have := CC.out; have h2_ := hs_; omega)); have n7_ := Aside0.mk (blk_kept (g := w7.heap.size) (o := .cells #[.int .i64 a0_0, .int .i64 a0_1, .slice Az86 l0_2.length cz86] 27 (0, 0)) (by (with_reducible repeat (first | refine blk_drewN ?_ _ | refine blk_drew ?_ | refine blk_alloc ?_ _)); exact HX99.out) hk (fun hs_ => by have := CC.out; have h2_ := hs_; omega)); have n8_ := Aside0.mk (blk_kept (g := w8.heap.size) (o := .cells #[.int .i64 a1_0, .int .i64 a1_1, .slice Az103 l1_2.length cz103] 27 (0, 0)) (by (with_reducible repeat (first | refine blk_drewN ?_ _ | refine blk_drew ?_ | refine blk_alloc ?_ _)); exact HX120.out) hk (fun hs_ => by have := CC.out; have h2_ := hs_; omega)); have n9_ := Aside0.mk (blk_kept (g := w9.heap.size) (o := .cells #[.int .i64 r51, .int .i64 r52, .slice Az124 r53.length cz124] 27 (0, 0)) (by (with_reducible repeat (first | refine blk_drewN ?_ _ | refine blk_drew ?_ | refine blk_alloc ?_ _)); exact HX145.out) hk (fun hs_ => by have := CC.out; have h2_ := hs_; omega)); have n10_ := Aside0.mk (hbk); have C283 : Aside0 (w14.heap.size ≤ w15.heap.size) := ⟨by have h_ := hk.1; (try simp at h_); omega⟩; have CCn_ := Aside0.mk (And.intro CC.out C283.out); clear CC; have CC := CCn_; clear CCn_; clear HO57; clear HO102; clear HO123; clear HX1; clear HX2; clear HX67; clear HX99; clear HX120; clear HX145; clear HB; clear hl256; clear hx257; clear hx258; clear hx259; clear hl260; clear hx261; clear hx262; clear hx263; clear hl264; clear hx265; clear hx266; clear hx267; clear hl268; clear hx269; clear hx270; clear hx271; clear hl272; clear hx273; clear hx274; clear hx275; clear hl276; clear hx277; clear hx278; clear hx279; have HO57 := n1_; clear n1_; have HO102 := n2_; clear n2_; have HO123 := n3_; clear n3_; have HX1 := n4_; clear n4_; have HX2 := n5_; clear n5_; have HX67 := n6_; clear n6_; have HX99 := n7_; clear n7_; have HX120 := n8_; clear n8_; have HX145 := n9_; clear n9_; have HB := n10_; clear n10_; clear HO85; have HO85 := Aside0.mk hm0_; (try clear hk); (try clear hbk); (try clear hm0_); have hl284 : w.heap.size < w15.heap.size := blk_lt HX1.out; have hx285 : w15.cell? ⟨w.heap.size, 0, none⟩ = some (.int .i64 a0_0) := (blk_cell HX1.out 0).trans rfl; have hx286 : w15.cell? ⟨w.heap.size, 1, none⟩ = some (.int .i64 a0_1) := (blk_cell HX1.out 1).trans rfl; have hx287 : w15.cell? ⟨w.heap.size, 2, none⟩ = some (.slice A0_2 l0_2.length c0_2) := (blk_cell HX1.out 2).trans rfl; have hl288 : w.heap.size + 1 < w15.heap.size := blk_lt HX2.out; have hx289 : w15.cell? ⟨w.heap.size + 1, 0, none⟩ = some (.int .i64 a1_0) := (blk_cell HX2.out 0).trans rfl; have hx290 : w15.cell? ⟨w.heap.size + 1, 1, none⟩ = some (.int .i64 a1_1) := (blk_cell HX2.out 1).trans rfl; have hx291 : w15.cell? ⟨w.heap.size + 1, 2, none⟩ = some (.slice A1_2 l1_2.length c1_2) := (blk_cell HX2.out 2).trans rfl; have hl292 : gC68 < w15.heap.size := blk_lt HX67.out; have hx293 : w15.cell? ⟨gC68, 0, none⟩ = some (.int .i64 r51) := (blk_cell HX67.out 0).trans rfl; have hx294 : w15.cell? ⟨gC68, 1, none⟩ = some (.int .i64 r52) := (blk_cell HX67.out 1).trans rfl; have hx295 : w15.cell? ⟨gC68, 2, none⟩ = some (.slice Az58 r53.length cz58) := (blk_cell HX67.out 2).trans rfl; have hl296 : w7.heap.size < w15.heap.size := blk_lt HX99.out; have hx297 : w15.cell? ⟨w7.heap.size, 0, none⟩ = some (.int .i64 a0_0) := (blk_cell HX99.out 0).trans rfl; have hx298 : w15.cell? ⟨w7.heap.size, 1, none⟩ = some (.int .i64 a0_1) := (blk_cell HX99.out 1).trans rfl; have hx299 : w15.cell? ⟨w7.heap.size, 2, none⟩ = some (.slice Az86 l0_2.length cz86) := (blk_cell HX99.out 2).trans rfl; have hl300 : w8.heap.size < w15.heap.size := blk_lt HX120.out; have hx301 : w15.cell? ⟨w8.heap.size, 0, none⟩ = some (.int .i64 a1_0) := (blk_cell HX120.out 0).trans rfl; have hx302 : w15.cell? ⟨w8.heap.size, 1, none⟩ = some (.int .i64 a1_1) := (blk_cell HX120.out 1).trans rfl; have hx303 : w15.cell? ⟨w8.heap.size, 2, none⟩ = some (.slice Az103 l1_2.length cz103) := (blk_cell HX120.out 2).trans rfl; have hl304 : w9.heap.size < w15.heap.size := blk_lt HX145.out; have hx305 : w15.cell? ⟨w9.heap.size, 0, none⟩ = some (.int .i64 r51) := (blk_cell HX145.out 0).trans rfl; have hx306 : w15.cell? ⟨w9.heap.size, 1, none⟩ = some (.int .i64 r52) := (blk_cell HX145.out 1).trans rfl; have hx307 : w15.cell? ⟨w9.heap.size, 2, none⟩ = some (.slice Az124 r53.length cz124) := (blk_cell HX145.out 2).trans rfl) | ((with_reducible refine gate_callee (f := 26) rfl ?_); refine goesL_ (some 69) rfl rfl Try.func26 (by kernel_rfl) rfl #[.agg #[.int .i64 a1_0, .int .i64 a1_1, .slice Az103 l1_2.length cz103], .int .i64 m280] rfl (by (try simp only [List.map_toArray, List.map_cons, List.map_nil]); first | done | rfl | (simp only [List.length_drop, List.length_take]; rfl)) ?_; (with_reducible refine (laws_markMatrix.callsM k a1_0 a1_1 (fun k_ => w7.heap.size + 1 ≤ k_ ∧ k_ < w8.heap.size) (.slice Az103 l1_2.length cz103) l1_2 m280 m308 ys309 w _ ?side1 ?side2 A310.out).mono ?_); (case side1 => repeat (first | (with_reducible first | exact HB.out | apply below_alloc | apply pw_below_drewN | apply below_drew1) | exact HB.out)); (case side2 => exact (by (with_reducible repeat (first | apply Kd.S_alloc | apply Kd.S_drewN | apply Kd.S_drew)); exact HO102.out)); rintro e w16 ⟨rfl, hm0_, hbk, hk⟩; refine ⟨_, rfl, ?_⟩; have n1_ := Aside0.mk (Kd.S_kept (by (with_reducible repeat (first | apply Kd.S_alloc | apply Kd.S_drewN | apply Kd.S_drew)); exact HO57.out) hk (fun k_ hk_ hs_ => by have := CC.out; have h1_ := hk_; have h2_ := hs_; omega)); have n2_ := Aside0.mk (Kd.S_kept (by (with_reducible repeat (first | apply Kd.S_alloc | apply Kd.S_drewN | apply Kd.S_drew)); exact HO85.out) hk (fun k_ hk_ hs_ => by have := CC.out; have h1_ := hk_; have h2_ := hs_; omega)); have n3_ := Aside0.mk (Kd.S_kept (by (with_reducible repeat (first | apply Kd.S_alloc | apply Kd.S_drewN | apply Kd.S_drew)); exact HO123.out) hk (fun k_ hk_ hs_ => by have := CC.out; have h1_ := hk_; have h2_ := hs_; omega)); have n4_ := Aside0.mk (blk_kept (g := w.heap.size) (o := .cells #[.int .i64 a0_0, .int .i64 a0_1, .slice A0_2 l0_2.length c0_2] 24 (0, 0)) (by (with_reducible repeat (first | refine blk_drewN ?_ _ | refine blk_drew ?_ | refine blk_alloc ?_ _)); exact HX1.out) hk (fun hs_ => by have := CC.out; have h2_ := hs_; omega)); have n5_ := Aside0.mk (blk_kept (g := w.heap.size + 1) (o := .cells #[.int .i64 a1_0, .int .i64 a1_1, .slice A1_2 l1_2.length c1_2] 24 (0, 0)) (by (with_reducible repeat (first | refine blk_drewN ?_ _ | refine blk_drew ?_ | refine blk_alloc ?_ _)); exact HX2.out) hk (fun hs_ => by have := CC.out; have h2_ := hs_; omega)); have n6_ := Aside0.mk (blk_kept (g := gC68) (o := .cells #[.int .i64 r51, .int .i64 r52, .slice Az58 r53.length cz58] 27 (0, 0)) (by (with_reducible repeat (first | refine blk_drewN ?_ _ | refine blk_drew ?_ | refine blk_alloc ?_ _)); exact HX67.out) hk (fun hs_ => by have := CC.out; have h2_ := hs_; omega)); have n7_ := Aside0.mk (blk_kept (g := w7.heap.size) (o := .cells #[.int .i64 a0_0, .int .i64 a0_1, .slice Az86 l0_2.length cz86] 27 (0, 0)) (by (with_reducible repeat (first | refine blk_drewN ?_ _ | refine blk_drew ?_ | refine blk_alloc ?_ _)); exact HX99.out) hk (fun hs_ => by have := CC.out; have h2_ := hs_; omega)); have n8_ := Aside0.mk (blk_kept (g := w8.heap.size) (o := .cells #[.int .i64 a1_0, .int .i64 a1_1, .slice Az103 l1_2.length cz103] 27 (0, 0)) (by (with_reducible repeat (first | refine blk_drewN ?_ _ | refine blk_drew ?_ | refine blk_alloc ?_ _)); exact HX120.out) hk (fun hs_ => by have := CC.out; have h2_ := hs_; omega)); have n9_ := Aside0.mk (blk_kept (g := w9.heap.size) (o := .cells #[.int .i64 r51, .int .i64 r52, .slice Az124 r53.length cz124] 27 (0, 0)) (by (with_reducible repeat (first | refine blk_drewN ?_ _ | refine blk_drew ?_ | refine blk_alloc ?_ _)); exact HX145.out) hk (fun hs_ => by have := CC.out; have h2_ := hs_; omega)); have n10_ := Aside0.mk (hbk); have C311 : Aside0 (w15.heap.size ≤ w16.heap.size) := ⟨by have h_ := hk.1; (try simp at h_); omega⟩; have CCn_ := Aside0.mk (And.intro CC.out C311.out); clear CC; have CC := CCn_; clear CCn_; clear HO57; clear HO85; clear HO123; clear HX1; clear HX2; clear HX67; clear HX99; clear HX120; clear HX145; clear HB; clear hl284; clear hx285; clear hx286; clear hx287; clear hl288; clear hx289; clear hx290; clear hx291; clear hl292; clear hx293; clear hx294; clear hx295; clear hl296; clear hx297; clear hx298; clear hx299; clear hl300; clear hx301; clear hx302; clear hx303; clear hl304; clear hx305; clear hx306; clear hx307; have HO57 := n1_; clear n1_; have HO85 := n2_; clear n2_; have HO123 := n3_; clear n3_; have HX1 := n4_; clear n4_; have HX2 := n5_; clear n5_; have HX67 := n6_; clear n6_; have HX99 := n7_; clear n7_; have HX120 := n8_; clear n8_; have HX145 := n9_; clear n9_; have HB := n10_; clear n10_; clear HO102; have HO102 := Aside0.mk hm0_; (try clear hk); (try clear hbk); (try clear hm0_); have hl312 : w.heap.size < w16.heap.size := blk_lt HX1.out; have hx313 : w16.cell? ⟨w.heap.size, 0, none⟩ = some (.int .i64 a0_0) := (blk_cell HX1.out 0).trans rfl; have hx314 : w16.cell? ⟨w.heap.size, 1, none⟩ = some (.int .i64 a0_1) := (blk_cell HX1.out 1).trans rfl; have hx315 : w16.cell? ⟨w.heap.size, 2, none⟩ = some (.slice A0_2 l0_2.length c0_2) := (blk_cell HX1.out 2).trans rfl; have hl316 : w.heap.size + 1 < w16.heap.size := blk_lt HX2.out; have hx317 : w16.cell? ⟨w.heap.size + 1, 0, none⟩ = some (.int .i64 a1_0) := (blk_cell HX2.out 0).trans rfl; have hx318 : w16.cell? ⟨w.heap.size + 1, 1, none⟩ = some (.int .i64 a1_1) := (blk_cell HX2.out 1).trans rfl; have hx319 : w16.cell? ⟨w.heap.size + 1, 2, none⟩ = some (.slice A1_2 l1_2.length c1_2) := (blk_cell HX2.out 2).trans rfl; have hl320 : gC68 < w16.heap.size := blk_lt HX67.out; have hx321 : w16.cell? ⟨gC68, 0, none⟩ = some (.int .i64 r51) := (blk_cell HX67.out 0).trans rfl; have hx322 : w16.cell? ⟨gC68, 1, none⟩ = some (.int .i64 r52) := (blk_cell HX67.out 1).trans rfl; have hx323 : w16.cell? ⟨gC68, 2, none⟩ = some (.slice Az58 r53.length cz58) := (blk_cell HX67.out 2).trans rfl; have hl324 : w7.heap.size < w16.heap.size := blk_lt HX99.out; have hx325 : w16.cell? ⟨w7.heap.size, 0, none⟩ = some (.int .i64 a0_0) := (blk_cell HX99.out 0).trans rfl; have hx326 : w16.cell? ⟨w7.heap.size, 1, none⟩ = some (.int .i64 a0_1) := (blk_cell HX99.out 1).trans rfl; have hx327 : w16.cell? ⟨w7.heap.size, 2, none⟩ = some (.slice Az86 l0_2.length cz86) := (blk_cell HX99.out 2).trans rfl; have hl328 : w8.heap.size < w16.heap.size := blk_lt HX120.out; have hx329 : w16.cell? ⟨w8.heap.size, 0, none⟩ = some (.int .i64 a1_0) := (blk_cell HX120.out 0).trans rfl; have hx330 : w16.cell? ⟨w8.heap.size, 1, none⟩ = some (.int .i64 a1_1) := (blk_cell HX120.out 1).trans rfl; have hx331 : w16.cell? ⟨w8.heap.size, 2, none⟩ = some (.slice Az103 l1_2.length cz103) := (blk_cell HX120.out 2).trans rfl; have hl332 : w9.heap.size < w16.heap.size := blk_lt HX145.out; have hx333 : w16.cell? ⟨w9.heap.size, 0, none⟩ = some (.int .i64 r51) := (blk_cell HX145.out 0).trans rfl; have hx334 : w16.cell? ⟨w9.heap.size, 1, none⟩ = some (.int .i64 r52) := (blk_cell HX145.out 1).trans rfl; have hx335 : w16.cell? ⟨w9.heap.size, 2, none⟩ = some (.slice Az124 r53.length cz124) := (blk_cell HX145.out 2).trans rfl) | (go_at_call 19; (with_reducible refine (laws_eqMatrix.calls k r51 r52 _ _ r53 r51 r52 _ _ r53 true _ ?side1 ?side2 ?side3 ?side4 A337.out).mono ?_); (case side1 => exact (Kd.S_reads' (n := r53.length) (A := Az124) (c := cz124) (by (with_reducible repeat (first | apply Kd.S_alloc | apply Kd.S_drewN | apply Kd.S_drew)); exact HO123.out)).2.2); (case side2 => exact (Kd.S_reads' (n := r53.length) (A := Az124) (c := cz124) HO123.out).2.1); (case side3 => exact (Kd.S_reads' (n := r53.length) (A := Az58) (c := cz58) (by (with_reducible repeat (first | apply Kd.S_alloc | apply Kd.S_drewN | apply Kd.S_drew)); exact HO57.out)).2.2); (case side4 => exact (Kd.S_reads' (n := r53.length) (A := Az58) (c := cz58) HO57.out).2.1); rintro e w17 ⟨rfl, hb⟩; have n1_ := Aside0.mk (Kd.S_below (by (with_reducible repeat (first | apply Kd.S_alloc | apply Kd.S_drewN | apply Kd.S_drew)); exact HO57.out) hb); have n2_ := Aside0.mk (Kd.S_below (by (with_reducible repeat (first | apply Kd.S_alloc | apply Kd.S_drewN | apply Kd.S_drew)); exact HO85.out) hb); have n3_ := Aside0.mk (Kd.S_below (by (with_reducible repeat (first | apply Kd.S_alloc | apply Kd.S_drewN | apply Kd.S_drew)); exact HO102.out) hb); have n4_ := Aside0.mk (Kd.S_below (by (with_reducible repeat (first | apply Kd.S_alloc | apply Kd.S_drewN | apply Kd.S_drew)); exact HO123.out) hb); have n5_ := Aside0.mk (blk_below (g := w.heap.size) (o := .cells #[.int .i64 a0_0, .int .i64 a0_1, .slice A0_2 l0_2.length c0_2] 24 (0, 0)) (by (with_reducible repeat (first | refine blk_drewN ?_ _ | refine blk_drew ?_ | refine blk_alloc ?_ _)); exact HX1.out) hb); have n6_ := Aside0.mk (blk_below (g := w.heap.size + 1) (o := .cells #[.int .i64 a1_0, .int .i64 a1_1, .slice A1_2 l1_2.length c1_2] 24 (0, 0)) (by (with_reducible repeat (first | refine blk_drewN ?_ _ | refine blk_drew ?_ | refine blk_alloc ?_ _)); exact HX2.out) hb); have n7_ := Aside0.mk (blk_below (g := gC68) (o := .cells #[.int .i64 r51, .int .i64 r52, .slice Az58 r53.length cz58] 27 (0, 0)) (by (with_reducible repeat (first | refine blk_drewN ?_ _ | refine blk_drew ?_ | refine blk_alloc ?_ _)); exact HX67.out) hb); have n8_ := Aside0.mk (blk_below (g := w7.heap.size) (o := .cells #[.int .i64 a0_0, .int .i64 a0_1, .slice Az86 l0_2.length cz86] 27 (0, 0)) (by (with_reducible repeat (first | refine blk_drewN ?_ _ | refine blk_drew ?_ | refine blk_alloc ?_ _)); exact HX99.out) hb); have n9_ := Aside0.mk (blk_below (g := w8.heap.size) (o := .cells #[.int .i64 a1_0, .int .i64 a1_1, .slice Az103 l1_2.length cz103] 27 (0, 0)) (by (with_reducible repeat (first | refine blk_drewN ?_ _ | refine blk_drew ?_ | refine blk_alloc ?_ _)); exact HX120.out) hb); have n10_ := Aside0.mk (blk_below (g := w9.heap.size) (o := .cells #[.int .i64 r51, .int .i64 r52, .slice Az124 r53.length cz124] 27 (0, 0)) (by (with_reducible repeat (first | refine blk_drewN ?_ _ | refine blk_drew ?_ | refine blk_alloc ?_ _)); exact HX145.out) hb); have n11_ := Aside0.mk (below_step (by repeat (first | (with_reducible first | exact HB.out | apply below_alloc | apply pw_below_drewN | apply below_drew1) | exact HB.out)) hb); have C338 : Aside0 (w16.heap.size ≤ w17.heap.size) := ⟨by have h_ := hb.size; (try simp at h_); omega⟩; have CCn_ := Aside0.mk (And.intro CC.out C338.out); clear CC; have CC := CCn_; clear CCn_; clear HO57; clear HO85; clear HO102; clear HO123; clear HX1; clear HX2; clear HX67; clear HX99; clear HX120; clear HX145; clear HB; clear hl312; clear hx313; clear hx314; clear hx315; clear hl316; clear hx317; clear hx318; clear hx319; clear hl320; clear hx321; clear hx322; clear hx323; clear hl324; clear hx325; clear hx326; clear hx327; clear hl328; clear hx329; clear hx330; clear hx331; clear hl332; clear hx333; clear hx334; clear hx335; have HO57 := n1_; clear n1_; have HO85 := n2_; clear n2_; have HO102 := n3_; clear n3_; have HO123 := n4_; clear n4_; have HX1 := n5_; clear n5_; have HX2 := n6_; clear n6_; have HX67 := n7_; clear n7_; have HX99 := n8_; clear n8_; have HX120 := n9_; clear n9_; have HX145 := n10_; clear n10_; have HB := n11_; clear n11_; (try clear hb); have hl339 : w.heap.size < w17.heap.size := blk_lt HX1.out; have hx340 : w17.cell? ⟨w.heap.size, 0, none⟩ = some (.int .i64 a0_0) := (blk_cell HX1.out 0).trans rfl; have hx341 : w17.cell? ⟨w.heap.size, 1, none⟩ = some (.int .i64 a0_1) := (blk_cell HX1.out 1).trans rfl; have hx342 : w17.cell? ⟨w.heap.size, 2, none⟩ = some (.slice A0_2 l0_2.length c0_2) := (blk_cell HX1.out 2).trans rfl; have hl343 : w.heap.size + 1 < w17.heap.size := blk_lt HX2.out; have hx344 : w17.cell? ⟨w.heap.size + 1, 0, none⟩ = some (.int .i64 a1_0) := (blk_cell HX2.out 0).trans rfl; have hx345 : w17.cell? ⟨w.heap.size + 1, 1, none⟩ = some (.int .i64 a1_1) := (blk_cell HX2.out 1).trans rfl; have hx346 : w17.cell? ⟨w.heap.size + 1, 2, none⟩ = some (.slice A1_2 l1_2.length c1_2) := (blk_cell HX2.out 2).trans rfl; have hl347 : gC68 < w17.heap.size := blk_lt HX67.out; have hx348 : w17.cell? ⟨gC68, 0, none⟩ = some (.int .i64 r51) := (blk_cell HX67.out 0).trans rfl; have hx349 : w17.cell? ⟨gC68, 1, none⟩ = some (.int .i64 r52) := (blk_cell HX67.out 1).trans rfl; have hx350 : w17.cell? ⟨gC68, 2, none⟩ = some (.slice Az58 r53.length cz58) := (blk_cell HX67.out 2).trans rfl; have hl351 : w7.heap.size < w17.heap.size := blk_lt HX99.out; have hx352 : w17.cell? ⟨w7.heap.size, 0, none⟩ = some (.int .i64 a0_0) := (blk_cell HX99.out 0).trans rfl; have hx353 : w17.cell? ⟨w7.heap.size, 1, none⟩ = some (.int .i64 a0_1) := (blk_cell HX99.out 1).trans rfl; have hx354 : w17.cell? ⟨w7.heap.size, 2, none⟩ = some (.slice Az86 l0_2.length cz86) := (blk_cell HX99.out 2).trans rfl; have hl355 : w8.heap.size < w17.heap.size := blk_lt HX120.out; have hx356 : w17.cell? ⟨w8.heap.size, 0, none⟩ = some (.int .i64 a1_0) := (blk_cell HX120.out 0).trans rfl; have hx357 : w17.cell? ⟨w8.heap.size, 1, none⟩ = some (.int .i64 a1_1) := (blk_cell HX120.out 1).trans rfl; have hx358 : w17.cell? ⟨w8.heap.size, 2, none⟩ = some (.slice Az103 l1_2.length cz103) := (blk_cell HX120.out 2).trans rfl; have hl359 : w9.heap.size < w17.heap.size := blk_lt HX145.out; have hx360 : w17.cell? ⟨w9.heap.size, 0, none⟩ = some (.int .i64 r51) := (blk_cell HX145.out 0).trans rfl; have hx361 : w17.cell? ⟨w9.heap.size, 1, none⟩ = some (.int .i64 r52) := (blk_cell HX145.out 1).trans rfl; have hx362 : w17.cell? ⟨w9.heap.size, 2, none⟩ = some (.slice Az124 r53.length cz124) := (blk_cell HX145.out 2).trans rfl) | ((with_reducible refine gate_callee (f := 26) rfl ?_); refine goesL_ (some 85) rfl rfl Try.func26 (by kernel_rfl) rfl #[.agg #[.int .i64 r51, .int .i64 r52, .slice Az124 r53.length cz124], .int .i64 1] rfl (by (try simp only [List.map_toArray, List.map_cons, List.map_nil]); first | done | rfl | (simp only [List.length_drop, List.length_take]; rfl)) ?_; (with_reducible refine (laws_markMatrix.callsM k r51 r52 (fun k_ => w8.heap.size + 1 ≤ k_ ∧ k_ < w9.heap.size) (.slice Az124 r53.length cz124) r53 1 m363 ys364 w _ ?side1 ?side2 A365.out).mono ?_); (case side1 => repeat (first | (with_reducible first | exact HB.out | apply below_alloc | apply pw_below_drewN | apply below_drew1) | exact HB.out)); (case side2 => exact (by (with_reducible repeat (first | apply Kd.S_alloc | apply Kd.S_drewN | apply Kd.S_drew)); exact HO123.out)); rintro e w18 ⟨rfl, hm0_, hbk, hk⟩; refine ⟨_, rfl, ?_⟩; have n1_ := Aside0.mk (Kd.S_kept (by (with_reducible repeat (first | apply Kd.S_alloc | apply Kd.S_drewN | apply Kd.S_drew)); exact HO57.out) hk (fun k_ hk_ hs_ => by have := CC.out; have h1_ := hk_; have h2_ := hs_; omega)); have n2_ := Aside0.mk (Kd.S_kept (by (with_reducible repeat (first | apply Kd.S_alloc | apply Kd.S_drewN | apply Kd.S_drew)); exact HO85.out) hk (fun k_ hk_ hs_ => by have := CC.out; have h1_ := hk_; have h2_ := hs_; omega)); have n3_ := Aside0.mk (Kd.S_kept (by (with_reducible repeat (first | apply Kd.S_alloc | apply Kd.S_drewN | apply Kd.S_drew)); exact HO102.out) hk (fun k_ hk_ hs_ => by have := CC.out; have h1_ := hk_; have h2_ := hs_; omega)); have n4_ := Aside0.mk (blk_kept (g := w.heap.size) (o := .cells #[.int .i64 a0_0, .int .i64 a0_1, .slice A0_2 l0_2.length c0_2] 24 (0, 0)) (by (with_reducible repeat (first | refine blk_drewN ?_ _ | refine blk_drew ?_ | refine blk_alloc ?_ _)); exact HX1.out) hk (fun hs_ => by have := CC.out; have h2_ := hs_; omega)); have n5_ := Aside0.mk (blk_kept (g := w.heap.size + 1) (o := .cells #[.int .i64 a1_0, .int .i64 a1_1, .slice A1_2 l1_2.length c1_2] 24 (0, 0)) (by (with_reducible repeat (first | refine blk_drewN ?_ _ | refine blk_drew ?_ | refine blk_alloc ?_ _)); exact HX2.out) hk (fun hs_ => by have := CC.out; have h2_ := hs_; omega)); have n6_ := Aside0.mk (blk_kept (g := gC68) (o := .cells #[.int .i64 r51, .int .i64 r52, .slice Az58 r53.length cz58] 27 (0, 0)) (by (with_reducible repeat (first | refine blk_drewN ?_ _ | refine blk_drew ?_ | refine blk_alloc ?_ _)); exact HX67.out) hk (fun hs_ => by have := CC.out; have h2_ := hs_; omega)); have n7_ := Aside0.mk (blk_kept (g := w7.heap.size) (o := .cells #[.int .i64 a0_0, .int .i64 a0_1, .slice Az86 l0_2.length cz86] 27 (0, 0)) (by (with_reducible repeat (first | refine blk_drewN ?_ _ | refine blk_drew ?_ | refine blk_alloc ?_ _)); exact HX99.out) hk (fun hs_ => by have := CC.out; have h2_ := hs_; omega)); have n8_ := Aside0.mk (blk_kept (g := w8.heap.size) (o := .cells #[.int .i64 a1_0, .int .i64 a1_1, .slice Az103 l1_2.length cz103] 27 (0, 0)) (by (with_reducible repeat (first | refine blk_drewN ?_ _ | refine blk_drew ?_ | refine blk_alloc ?_ _)); exact HX120.out) hk (fun hs_ => by have := CC.out; have h2_ := hs_; omega)); have n9_ := Aside0.mk (blk_kept (g := w9.heap.size) (o := .cells #[.int .i64 r51, .int .i64 r52, .slice Az124 r53.length cz124] 27 (0, 0)) (by (with_reducible repeat (first | refine blk_drewN ?_ _ | refine blk_drew ?_ | refine blk_alloc ?_ _)); exact HX145.out) hk (fun hs_ => by have := CC.out; have h2_ := hs_; omega)); have n10_ := Aside0.mk (hbk); have C366 : Aside0 (w17.heap.size ≤ w18.heap.size) := ⟨by have h_ := hk.1; (try simp at h_); omega⟩; have CCn_ := Aside0.mk (And.intro CC.out C366.out); clear CC; have CC := CCn_; clear CCn_; clear HO57; clear HO85; clear HO102; clear HX1; clear HX2; clear HX67; clear HX99; clear HX120; clear HX145; clear HB; clear hl339; clear hx340; clear hx341; clear hx342; clear hl343; clear hx344; clear hx345; clear hx346; clear hl347; clear hx348; clear hx349; clear hx350; clear hl351; clear hx352; clear hx353; clear hx354; clear hl355; clear hx356; clear hx357; clear hx358; clear hl359; clear hx360; clear hx361; clear hx362; have HO57 := n1_; clear n1_; have HO85 := n2_; clear n2_; have HO102 := n3_; clear n3_; have HX1 := n4_; clear n4_; have HX2 := n5_; clear n5_; have HX67 := n6_; clear n6_; have HX99 := n7_; clear n7_; have HX120 := n8_; clear n8_; have HX145 := n9_; clear n9_; have HB := n10_; clear n10_; clear HO123; have HO123 := Aside0.mk hm0_; (try clear hk); (try clear hbk); (try clear hm0_); have hl367 : w.heap.size < w18.heap.size := blk_lt HX1.out; have hx368 : w18.cell? ⟨w.heap.size, 0, none⟩ = some (.int .i64 a0_0) := (blk_cell HX1.out 0).trans rfl; have hx369 : w18.cell? ⟨w.heap.size, 1, none⟩ = some (.int .i64 a0_1) := (blk_cell HX1.out 1).trans rfl; have hx370 : w18.cell? ⟨w.heap.size, 2, none⟩ = some (.slice A0_2 l0_2.length c0_2) := (blk_cell HX1.out 2).trans rfl; have hl371 : w.heap.size + 1 < w18.heap.size := blk_lt HX2.out; have hx372 : w18.cell? ⟨w.heap.size + 1, 0, none⟩ = some (.int .i64 a1_0) := (blk_cell HX2.out 0).trans rfl; have hx373 : w18.cell? ⟨w.heap.size + 1, 1, none⟩ = some (.int .i64 a1_1) := (blk_cell HX2.out 1).trans rfl; have hx374 : w18.cell? ⟨w.heap.size + 1, 2, none⟩ = some (.slice A1_2 l1_2.length c1_2) := (blk_cell HX2.out 2).trans rfl; have hl375 : gC68 < w18.heap.size := blk_lt HX67.out; have hx376 : w18.cell? ⟨gC68, 0, none⟩ = some (.int .i64 r51) := (blk_cell HX67.out 0).trans rfl; have hx377 : w18.cell? ⟨gC68, 1, none⟩ = some (.int .i64 r52) := (blk_cell HX67.out 1).trans rfl; have hx378 : w18.cell? ⟨gC68, 2, none⟩ = some (.slice Az58 r53.length cz58) := (blk_cell HX67.out 2).trans rfl; have hl379 : w7.heap.size < w18.heap.size := blk_lt HX99.out; have hx380 : w18.cell? ⟨w7.heap.size, 0, none⟩ = some (.int .i64 a0_0) := (blk_cell HX99.out 0).trans rfl; have hx381 : w18.cell? ⟨w7.heap.size, 1, none⟩ = some (.int .i64 a0_1) := (blk_cell HX99.out 1).trans rfl; have hx382 : w18.cell? ⟨w7.heap.size, 2, none⟩ = some (.slice Az86 l0_2.length cz86) := (blk_cell HX99.out 2).trans rfl; have hl383 : w8.heap.size < w18.heap.size := blk_lt HX120.out; have hx384 : w18.cell? ⟨w8.heap.size, 0, none⟩ = some (.int .i64 a1_0) := (blk_cell HX120.out 0).trans rfl; have hx385 : w18.cell? ⟨w8.heap.size, 1, none⟩ = some (.int .i64 a1_1) := (blk_cell HX120.out 1).trans rfl; have hx386 : w18.cell? ⟨w8.heap.size, 2, none⟩ = some (.slice Az103 l1_2.length cz103) := (blk_cell HX120.out 2).trans rfl; have hl387 : w9.heap.size < w18.heap.size := blk_lt HX145.out; have hx388 : w18.cell? ⟨w9.heap.size, 0, none⟩ = some (.int .i64 r51) := (blk_cell HX145.out 0).trans rfl; have hx389 : w18.cell? ⟨w9.heap.size, 1, none⟩ = some (.int .i64 r52) := (blk_cell HX145.out 1).trans rfl; have hx390 : w18.cell? ⟨w9.heap.size, 2, none⟩ = some (.slice Az124 r53.length cz124) := (blk_cell HX145.out 2).trans rfl) | ((with_reducible refine gate_callee (f := 28) rfl ?_); refine goesL_ (some 88) rfl rfl Try.func28 (by kernel_rfl) rfl #[.agg #[.int .i64 r51, .int .i64 r52, .slice Az124 r53.length cz124], .int .i64 1] rfl (by (try simp only [List.map_toArray, List.map_cons, List.map_nil]); first | done | rfl | (simp only [List.length_drop, List.length_take]; rfl)) ?_; (with_reducible refine (calls_as ?eq_ (laws_heldMatrix.calls k r51 r52 Az124 cz124 ys364 1 m363 _ ?side1 ?side2 A391.out)).mono ?_); (case eq_ => rw [show ys364.length = r53.length from (Kd.S_reads' HO123.out).1.symm]); (case side1 => exact (Kd.S_reads' (n := r53.length) (A := Az124) (c := cz124) (by (with_reducible repeat (first | apply Kd.S_alloc | apply Kd.S_drewN | apply Kd.S_drew)); exact HO123.out)).2.2); (case side2 => exact Nat.le_trans (Nat.le_of_eq (Kd.S_reads' HO123.out).1.symm) (Kd.S_reads' HO123.out).2.1); rintro e w19 ⟨rfl, hb⟩; refine ⟨_, rfl, ?_⟩; have n1_ := Aside0.mk (Kd.S_below (by (with_reducible repeat (first | apply Kd.S_alloc | apply Kd.S_drewN | apply Kd.S_drew)); exact HO57.out) hb); have n2_ := Aside0.mk (Kd.S_below (by (with_reducible repeat (first | apply Kd.S_alloc | apply Kd.S_drewN | apply Kd.S_drew)); exact HO85.out) hb); have n3_ := Aside0.mk (Kd.S_below (by (with_reducible repeat (first | apply Kd.S_alloc | apply Kd.S_drewN | apply Kd.S_drew)); exact HO102.out) hb); have n4_ := Aside0.mk (Kd.S_below (by (with_reducible repeat (first | apply Kd.S_alloc | apply Kd.S_drewN | apply Kd.S_drew)); exact HO123.out) hb); have n5_ := Aside0.mk (blk_below (g := w.heap.size) (o := .cells #[.int .i64 a0_0, .int .i64 a0_1, .slice A0_2 l0_2.length c0_2] 24 (0, 0)) (by (with_reducible repeat (first | refine blk_drewN ?_ _ | refine blk_drew ?_ | refine blk_alloc ?_ _)); exact HX1.out) hb); have n6_ := Aside0.mk (blk_below (g := w.heap.size + 1) (o := .cells #[.int .i64 a1_0, .int .i64 a1_1, .slice A1_2 l1_2.length c1_2] 24 (0, 0)) (by (with_reducible repeat (first | refine blk_drewN ?_ _ | refine blk_drew ?_ | refine blk_alloc ?_ _)); exact HX2.out) hb); have n7_ := Aside0.mk (blk_below (g := gC68) (o := .cells #[.int .i64 r51, .int .i64 r52, .slice Az58 r53.length cz58] 27 (0, 0)) (by (with_reducible repeat (first | refine blk_drewN ?_ _ | refine blk_drew ?_ | refine blk_alloc ?_ _)); exact HX67.out) hb); have n8_ := Aside0.mk (blk_below (g := w7.heap.size) (o := .cells #[.int .i64 a0_0, .int .i64 a0_1, .slice Az86 l0_2.length cz86] 27 (0, 0)) (by (with_reducible repeat (first | refine blk_drewN ?_ _ | refine blk_drew ?_ | refine blk_alloc ?_ _)); exact HX99.out) hb); have n9_ := Aside0.mk (blk_below (g := w8.heap.size) (o := .cells #[.int .i64 a1_0, .int .i64 a1_1, .slice Az103 l1_2.length cz103] 27 (0, 0)) (by (with_reducible repeat (first | refine blk_drewN ?_ _ | refine blk_drew ?_ | refine blk_alloc ?_ _)); exact HX120.out) hb); have n10_ := Aside0.mk (blk_below (g := w9.heap.size) (o := .cells #[.int .i64 r51, .int .i64 r52, .slice Az124 r53.length cz124] 27 (0, 0)) (by (with_reducible repeat (first | refine blk_drewN ?_ _ | refine blk_drew ?_ | refine blk_alloc ?_ _)); exact HX145.out) hb); have n11_ := Aside0.mk (below_step (by repeat (first | (with_reducible first | exact HB.out | apply below_alloc | apply pw_below_drewN | apply below_drew1) | exact HB.out)) hb); have C392 : Aside0 (w18.heap.size ≤ w19.heap.size) := ⟨by have h_ := hb.size; (try simp at h_); omega⟩; have CCn_ := Aside0.mk (And.intro CC.out C392.out); clear CC; have CC := CCn_; clear CCn_; clear HO57; clear HO85; clear HO102; clear HO123; clear HX1; clear HX2; clear HX67; clear HX99; clear HX120; clear HX145; clear HB; clear hl367; clear hx368; clear hx369; clear hx370; clear hl371; clear hx372; clear hx373; clear hx374; clear hl375; clear hx376; clear hx377; clear hx378; clear hl379; clear hx380; clear hx381; clear hx382; clear hl383; clear hx384; clear hx385; clear hx386; clear hl387; clear hx388; clear hx389; clear hx390; have HO57 := n1_; clear n1_; have HO85 := n2_; clear n2_; have HO102 := n3_; clear n3_; have HO123 := n4_; clear n4_; have HX1 := n5_; clear n5_; have HX2 := n6_; clear n6_; have HX67 := n7_; clear n7_; have HX99 := n8_; clear n8_; have HX120 := n9_; clear n9_; have HX145 := n10_; clear n10_; have HB := n11_; clear n11_; (try clear hb); have hl393 : w.heap.size < w19.heap.size := blk_lt HX1.out; have hx394 : w19.cell? ⟨w.heap.size, 0, none⟩ = some (.int .i64 a0_0) := (blk_cell HX1.out 0).trans rfl; have hx395 : w19.cell? ⟨w.heap.size, 1, none⟩ = some (.int .i64 a0_1) := (blk_cell HX1.out 1).trans rfl; have hx396 : w19.cell? ⟨w.heap.size, 2, none⟩ = some (.slice A0_2 l0_2.length c0_2) := (blk_cell HX1.out 2).trans rfl; have hl397 : w.heap.size + 1 < w19.heap.size := blk_lt HX2.out; have hx398 : w19.cell? ⟨w.heap.size + 1, 0, none⟩ = some (.int .i64 a1_0) := (blk_cell HX2.out 0).trans rfl; have hx399 : w19.cell? ⟨w.heap.size + 1, 1, none⟩ = some (.int .i64 a1_1) := (blk_cell HX2.out 1).trans rfl; have hx400 : w19.cell? ⟨w.heap.size + 1, 2, none⟩ = some (.slice A1_2 l1_2.length c1_2) := (blk_cell HX2.out 2).trans rfl; have hl401 : gC68 < w19.heap.size := blk_lt HX67.out; have hx402 : w19.cell? ⟨gC68, 0, none⟩ = some (.int .i64 r51) := (blk_cell HX67.out 0).trans rfl; have hx403 : w19.cell? ⟨gC68, 1, none⟩ = some (.int .i64 r52) := (blk_cell HX67.out 1).trans rfl; have hx404 : w19.cell? ⟨gC68, 2, none⟩ = some (.slice Az58 r53.length cz58) := (blk_cell HX67.out 2).trans rfl; have hl405 : w7.heap.size < w19.heap.size := blk_lt HX99.out; have hx406 : w19.cell? ⟨w7.heap.size, 0, none⟩ = some (.int .i64 a0_0) := (blk_cell HX99.out 0).trans rfl; have hx407 : w19.cell? ⟨w7.heap.size, 1, none⟩ = some (.int .i64 a0_1) := (blk_cell HX99.out 1).trans rfl; have hx408 : w19.cell? ⟨w7.heap.size, 2, none⟩ = some (.slice Az86 l0_2.length cz86) := (blk_cell HX99.out 2).trans rfl; have hl409 : w8.heap.size < w19.heap.size := blk_lt HX120.out; have hx410 : w19.cell? ⟨w8.heap.size, 0, none⟩ = some (.int .i64 a1_0) := (blk_cell HX120.out 0).trans rfl; have hx411 : w19.cell? ⟨w8.heap.size, 1, none⟩ = some (.int .i64 a1_1) := (blk_cell HX120.out 1).trans rfl; have hx412 : w19.cell? ⟨w8.heap.size, 2, none⟩ = some (.slice Az103 l1_2.length cz103) := (blk_cell HX120.out 2).trans rfl; have hl413 : w9.heap.size < w19.heap.size := blk_lt HX145.out; have hx414 : w19.cell? ⟨w9.heap.size, 0, none⟩ = some (.int .i64 r51) := (blk_cell HX145.out 0).trans rfl; have hx415 : w19.cell? ⟨w9.heap.size, 1, none⟩ = some (.int .i64 r52) := (blk_cell HX145.out 1).trans rfl; have hx416 : w19.cell? ⟨w9.heap.size, 2, none⟩ = some (.slice Az124 r53.length cz124) := (blk_cell HX145.out 2).trans rfl))
  go_cut [15, 16] from 94 (fun s15_ s16_ wx => ∃ (gC503 : Nat) (Az477 : Option Addr) (cz477 : Nat), s15_ = .pointer (some ⟨gC503, 0, none⟩) ∧ s16_ = .int .i64 r54 ∧ Aside0 (Kd.S (Kd.slice 2 (Kd.int .i64)) 32 wx w.heap.size (fun k_ => w19.heap.size ≤ k_ ∧ k_ < wx.heap.size) (.slice Az477 r53.length cz477) r53) ∧ Aside0 (wx.heap[gC503]? = some (.cells #[.int .i64 r51, .int .i64 r52, .slice Az477 r53.length cz477] 27 (0, 0))) ∧ Aside0 (Kd.S (Kd.slice 2 (Kd.int .i64)) 32 wx w.heap.size (fun k_ => w2.heap.size ≤ k_ ∧ k_ < w6.heap.size) (.slice Az58 r53.length cz58) r53) ∧ Aside0 (Kd.S (Kd.slice 2 (Kd.int .i64)) 32 wx w.heap.size (fun k_ => w6.heap.size ≤ k_ ∧ k_ < w7.heap.size) (.slice Az86 l0_2.length cz86) ys281) ∧ Aside0 (Kd.S (Kd.slice 2 (Kd.int .i64)) 32 wx w.heap.size (fun k_ => w7.heap.size + 1 ≤ k_ ∧ k_ < w8.heap.size) (.slice Az103 l1_2.length cz103) ys309) ∧ Aside0 (Kd.S (Kd.slice 2 (Kd.int .i64)) 32 wx w.heap.size (fun k_ => w8.heap.size + 1 ≤ k_ ∧ k_ < w9.heap.size) (.slice Az124 r53.length cz124) ys364) ∧ Aside0 (wx.heap[w.heap.size]? = some (.cells #[.int .i64 a0_0, .int .i64 a0_1, .slice A0_2 l0_2.length c0_2] 24 (0, 0))) ∧ Aside0 (wx.heap[w.heap.size + 1]? = some (.cells #[.int .i64 a1_0, .int .i64 a1_1, .slice A1_2 l1_2.length c1_2] 24 (0, 0))) ∧ Aside0 (wx.heap[gC68]? = some (.cells #[.int .i64 r51, .int .i64 r52, .slice Az58 r53.length cz58] 27 (0, 0))) ∧ Aside0 (wx.heap[w7.heap.size]? = some (.cells #[.int .i64 a0_0, .int .i64 a0_1, .slice Az86 l0_2.length cz86] 27 (0, 0))) ∧ Aside0 (wx.heap[w8.heap.size]? = some (.cells #[.int .i64 a1_0, .int .i64 a1_1, .slice Az103 l1_2.length cz103] 27 (0, 0))) ∧ Aside0 (wx.heap[w9.heap.size]? = some (.cells #[.int .i64 r51, .int .i64 r52, .slice Az124 r53.length cz124] 27 (0, 0))) ∧ Aside0 (Below w.heap.size w wx) ∧ Aside0 (w19.heap.size ≤ wx.heap.size))
  case first =>
    go_region_held3 (fun w' => w'.cell? ⟨w.heap.size, 0, none⟩ = some (.int .i64 a0_0) ∧ w'.cell? ⟨w.heap.size, 1, none⟩ = some (.int .i64 a0_1) ∧ w'.cell? ⟨w.heap.size, 2, none⟩ = some (.slice A0_2 l0_2.length c0_2) ∧ w'.cell? ⟨w.heap.size + 1, 0, none⟩ = some (.int .i64 a1_0) ∧ w'.cell? ⟨w.heap.size + 1, 1, none⟩ = some (.int .i64 a1_1) ∧ w'.cell? ⟨w.heap.size + 1, 2, none⟩ = some (.slice A1_2 l1_2.length c1_2)) (first | ((repeat' apply And.intro) <;> assumption) | exact ⟨(cell_far3 (a := ⟨w.heap.size, 0, none⟩) (blk_ne HX1.out hz_.out (by decide))).trans (by assumption), (cell_far3 (a := ⟨w.heap.size, 1, none⟩) (blk_ne HX1.out hz_.out (by decide))).trans (by assumption), (cell_far3 (a := ⟨w.heap.size, 2, none⟩) (blk_ne HX1.out hz_.out (by decide))).trans (by assumption), (cell_far3 (a := ⟨w.heap.size + 1, 0, none⟩) (blk_ne HX2.out hz_.out (by decide))).trans (by assumption), (cell_far3 (a := ⟨w.heap.size + 1, 1, none⟩) (blk_ne HX2.out hz_.out (by decide))).trans (by assumption), (cell_far3 (a := ⟨w.heap.size + 1, 2, none⟩) (blk_ne HX2.out hz_.out (by decide))).trans (by assumption)⟩ | go_keep) (first | (go_at_call 17; (with_reducible refine (laws_toMatrix.calls k a0_0 a0_1 _ _ l0_2 a0_0 a0_1 l0_2 _ ?side1 ?side2 A418.out).mono ?_); (case side1 => exact Kd.C_below HR0_2.out (by repeat (first | (with_reducible first | exact HB.out | apply below_alloc | apply pw_below_drewN | apply below_drew1) | exact HB.out))); (case side2 => exact HC0_2.out); rintro e w20 ⟨v100_, rfl, ho0_, hb⟩; have n1_ := Aside0.mk (Kd.S_below (by (with_reducible repeat (first | apply Kd.S_alloc | apply Kd.S_drewN | apply Kd.S_drew)); exact HO57.out) hb); have n2_ := Aside0.mk (Kd.S_below (by (with_reducible repeat (first | apply Kd.S_alloc | apply Kd.S_drewN | apply Kd.S_drew)); exact HO85.out) hb); have n3_ := Aside0.mk (Kd.S_below (by (with_reducible repeat (first | apply Kd.S_alloc | apply Kd.S_drewN | apply Kd.S_drew)); exact HO102.out) hb); have n4_ := Aside0.mk (Kd.S_below (by (with_reducible repeat (first | apply Kd.S_alloc | apply Kd.S_drewN | apply Kd.S_drew)); exact HO123.out) hb); (first | (have hzn_ := Aside0.mk (blk_below (g := w19.heap.size) (o := .cells #[(.int .i64 0 : Value), (.int .i64 0 : Value), (.slice none 0 0 : Value)] 27 (0, 0)) (by exact blk_new_at (by simp)) hb)) | (have hzn_ := Aside0.mk (blk_below (o := .cells #[(.int .i64 0 : Value), (.int .i64 0 : Value), (.slice none 0 0 : Value)] 27 (0, 0)) hz_.out hb); clear hz_) | skip); (try (have hz_ := hzn_; clear hzn_)); (try have hzc0_ : w20.cell? ⟨_, 0, none⟩ = some ((.int .i64 0 : Value)) := (blk_cell hz_.out 0).trans rfl); (try have hzf0_ := blk_frozen hz_.out 0); (try have hzc1_ : w20.cell? ⟨_, 1, none⟩ = some ((.int .i64 0 : Value)) := (blk_cell hz_.out 1).trans rfl); (try have hzf1_ := blk_frozen hz_.out 1); (try have hzc2_ : w20.cell? ⟨_, 2, none⟩ = some ((.slice none 0 0 : Value)) := (blk_cell hz_.out 2).trans rfl); (try have hzf2_ := blk_frozen hz_.out 2); (try have hzl_ := blk_lt hz_.out); have n5_ := Aside0.mk (blk_below (g := w.heap.size) (o := .cells #[.int .i64 a0_0, .int .i64 a0_1, .slice A0_2 l0_2.length c0_2] 24 (0, 0)) (by (with_reducible repeat (first | refine blk_drewN ?_ _ | refine blk_drew ?_ | refine blk_alloc ?_ _)); exact HX1.out) hb); have n6_ := Aside0.mk (blk_below (g := w.heap.size + 1) (o := .cells #[.int .i64 a1_0, .int .i64 a1_1, .slice A1_2 l1_2.length c1_2] 24 (0, 0)) (by (with_reducible repeat (first | refine blk_drewN ?_ _ | refine blk_drew ?_ | refine blk_alloc ?_ _)); exact HX2.out) hb); have n7_ := Aside0.mk (blk_below (g := gC68) (o := .cells #[.int .i64 r51, .int .i64 r52, .slice Az58 r53.length cz58] 27 (0, 0)) (by (with_reducible repeat (first | refine blk_drewN ?_ _ | refine blk_drew ?_ | refine blk_alloc ?_ _)); exact HX67.out) hb); have n8_ := Aside0.mk (blk_below (g := w7.heap.size) (o := .cells #[.int .i64 a0_0, .int .i64 a0_1, .slice Az86 l0_2.length cz86] 27 (0, 0)) (by (with_reducible repeat (first | refine blk_drewN ?_ _ | refine blk_drew ?_ | refine blk_alloc ?_ _)); exact HX99.out) hb); have n9_ := Aside0.mk (blk_below (g := w8.heap.size) (o := .cells #[.int .i64 a1_0, .int .i64 a1_1, .slice Az103 l1_2.length cz103] 27 (0, 0)) (by (with_reducible repeat (first | refine blk_drewN ?_ _ | refine blk_drew ?_ | refine blk_alloc ?_ _)); exact HX120.out) hb); have n10_ := Aside0.mk (blk_below (g := w9.heap.size) (o := .cells #[.int .i64 r51, .int .i64 r52, .slice Az124 r53.length cz124] 27 (0, 0)) (by (with_reducible repeat (first | refine blk_drewN ?_ _ | refine blk_drew ?_ | refine blk_alloc ?_ _)); exact HX145.out) hb); have n11_ := Aside0.mk (below_step (by repeat (first | (with_reducible first | exact HB.out | apply below_alloc | apply pw_below_drewN | apply below_drew1) | exact HB.out)) hb); have C419 : Aside0 (w19.heap.size ≤ w20.heap.size) := ⟨by have h_ := hb.size; (try simp at h_); omega⟩; have CCn_ := Aside0.mk (And.intro CC.out C419.out); clear CC; have CC := CCn_; clear CCn_; clear HO57; clear HO85; clear HO102; clear HO123; clear HX1; clear HX2; clear HX67; clear HX99; clear HX120; clear HX145; clear HB; clear hl393; clear hx394; clear hx395; clear hx396; clear hl397; clear hx398; clear hx399; clear hx400; clear hl401; clear hx402; clear hx403; clear hx404; clear hl405; clear hx406; clear hx407; clear hx408; clear hl409; clear hx410; clear hx411; clear hx412; clear hl413; clear hx414; clear hx415; clear hx416; have HO57 := n1_; clear n1_; have HO85 := n2_; clear n2_; have HO102 := n3_; clear n3_; have HO123 := n4_; clear n4_; have HX1 := n5_; clear n5_; have HX2 := n6_; clear n6_; have HX67 := n7_; clear n7_; have HX99 := n8_; clear n8_; have HX120 := n9_; clear n9_; have HX145 := n10_; clear n10_; have HB := n11_; clear n11_; have HO420 := Aside0.mk (Kd.S_lower (base' := w.heap.size) (Kd.S_mono (Kd.S_bound ho0_) (ok' := fun k_ => w19.heap.size ≤ k_ ∧ k_ < w20.heap.size) (fun k_ hk_ => ⟨by have h_ := hk_.2.1; (try simp at h_); omega, hk_.2.2.1⟩)) (by have := CC.out; first | omega | (simp; done) | (simp; omega))); obtain ⟨Az421, cz421, ez421⟩ := Kd.S_slice HO420.out; subst ez421; (try clear hb); (try clear ho0_); have hl422 : w.heap.size < w20.heap.size := blk_lt HX1.out; have hx423 : w20.cell? ⟨w.heap.size, 0, none⟩ = some (.int .i64 a0_0) := (blk_cell HX1.out 0).trans rfl; have hx424 : w20.cell? ⟨w.heap.size, 1, none⟩ = some (.int .i64 a0_1) := (blk_cell HX1.out 1).trans rfl; have hx425 : w20.cell? ⟨w.heap.size, 2, none⟩ = some (.slice A0_2 l0_2.length c0_2) := (blk_cell HX1.out 2).trans rfl; have hl426 : w.heap.size + 1 < w20.heap.size := blk_lt HX2.out; have hx427 : w20.cell? ⟨w.heap.size + 1, 0, none⟩ = some (.int .i64 a1_0) := (blk_cell HX2.out 0).trans rfl; have hx428 : w20.cell? ⟨w.heap.size + 1, 1, none⟩ = some (.int .i64 a1_1) := (blk_cell HX2.out 1).trans rfl; have hx429 : w20.cell? ⟨w.heap.size + 1, 2, none⟩ = some (.slice A1_2 l1_2.length c1_2) := (blk_cell HX2.out 2).trans rfl; have hl430 : gC68 < w20.heap.size := blk_lt HX67.out; have hx431 : w20.cell? ⟨gC68, 0, none⟩ = some (.int .i64 r51) := (blk_cell HX67.out 0).trans rfl; have hx432 : w20.cell? ⟨gC68, 1, none⟩ = some (.int .i64 r52) := (blk_cell HX67.out 1).trans rfl; have hx433 : w20.cell? ⟨gC68, 2, none⟩ = some (.slice Az58 r53.length cz58) := (blk_cell HX67.out 2).trans rfl; have hl434 : w7.heap.size < w20.heap.size := blk_lt HX99.out; have hx435 : w20.cell? ⟨w7.heap.size, 0, none⟩ = some (.int .i64 a0_0) := (blk_cell HX99.out 0).trans rfl; have hx436 : w20.cell? ⟨w7.heap.size, 1, none⟩ = some (.int .i64 a0_1) := (blk_cell HX99.out 1).trans rfl; have hx437 : w20.cell? ⟨w7.heap.size, 2, none⟩ = some (.slice Az86 l0_2.length cz86) := (blk_cell HX99.out 2).trans rfl; have hl438 : w8.heap.size < w20.heap.size := blk_lt HX120.out; have hx439 : w20.cell? ⟨w8.heap.size, 0, none⟩ = some (.int .i64 a1_0) := (blk_cell HX120.out 0).trans rfl; have hx440 : w20.cell? ⟨w8.heap.size, 1, none⟩ = some (.int .i64 a1_1) := (blk_cell HX120.out 1).trans rfl; have hx441 : w20.cell? ⟨w8.heap.size, 2, none⟩ = some (.slice Az103 l1_2.length cz103) := (blk_cell HX120.out 2).trans rfl; have hl442 : w9.heap.size < w20.heap.size := blk_lt HX145.out; have hx443 : w20.cell? ⟨w9.heap.size, 0, none⟩ = some (.int .i64 r51) := (blk_cell HX145.out 0).trans rfl; have hx444 : w20.cell? ⟨w9.heap.size, 1, none⟩ = some (.int .i64 r52) := (blk_cell HX145.out 1).trans rfl; have hx445 : w20.cell? ⟨w9.heap.size, 2, none⟩ = some (.slice Az124 r53.length cz124) := (blk_cell HX145.out 2).trans rfl) | (go_at_call 17; (with_reducible refine (laws_toMatrix.calls k a1_0 a1_1 _ _ l1_2 a1_0 a1_1 l1_2 _ ?side1 ?side2 A446.out).mono ?_); (case side1 => exact Kd.C_below HR1_2.out (by repeat (first | (with_reducible first | exact HB.out | apply below_alloc | apply pw_below_drewN | apply below_drew1) | exact HB.out))); (case side2 => exact HC1_2.out); rintro e w21 ⟨v100_, rfl, ho0_, hb⟩; have n1_ := Aside0.mk (Kd.S_below (by (with_reducible repeat (first | apply Kd.S_alloc | apply Kd.S_drewN | apply Kd.S_drew)); exact HO57.out) hb); have n2_ := Aside0.mk (Kd.S_below (by (with_reducible repeat (first | apply Kd.S_alloc | apply Kd.S_drewN | apply Kd.S_drew)); exact HO85.out) hb); have n3_ := Aside0.mk (Kd.S_below (by (with_reducible repeat (first | apply Kd.S_alloc | apply Kd.S_drewN | apply Kd.S_drew)); exact HO102.out) hb); have n4_ := Aside0.mk (Kd.S_below (by (with_reducible repeat (first | apply Kd.S_alloc | apply Kd.S_drewN | apply Kd.S_drew)); exact HO123.out) hb); have n5_ := Aside0.mk (Kd.S_below (by (with_reducible repeat (first | apply Kd.S_alloc | apply Kd.S_drewN | apply Kd.S_drew)); exact HO420.out) hb); (try clear hzc0_); (try clear hzf0_); (try clear hzc1_); (try clear hzf1_); (try clear hzc2_); (try clear hzf2_); (try clear hzl_); (first | (have hzn_ := Aside0.mk (blk_below (g := w20.heap.size) (o := .cells #[(.int .i64 0 : Value), (.int .i64 0 : Value), (.slice none 0 0 : Value)] 27 (0, 0)) (by exact blk_new_at (by simp)) hb)) | (have hzn_ := Aside0.mk (blk_below (o := .cells #[(.int .i64 0 : Value), (.int .i64 0 : Value), (.slice none 0 0 : Value)] 27 (0, 0)) hz_.out hb); clear hz_) | skip); (try (have hz_ := hzn_; clear hzn_)); (try have hzc0_ : w21.cell? ⟨_, 0, none⟩ = some ((.int .i64 0 : Value)) := (blk_cell hz_.out 0).trans rfl); (try have hzf0_ := blk_frozen hz_.out 0); (try have hzc1_ : w21.cell? ⟨_, 1, none⟩ = some ((.int .i64 0 : Value)) := (blk_cell hz_.out 1).trans rfl); (try have hzf1_ := blk_frozen hz_.out 1); (try have hzc2_ : w21.cell? ⟨_, 2, none⟩ = some ((.slice none 0 0 : Value)) := (blk_cell hz_.out 2).trans rfl); (try have hzf2_ := blk_frozen hz_.out 2); (try have hzl_ := blk_lt hz_.out); have n6_ := Aside0.mk (blk_below (g := w.heap.size) (o := .cells #[.int .i64 a0_0, .int .i64 a0_1, .slice A0_2 l0_2.length c0_2] 24 (0, 0)) (by (with_reducible repeat (first | refine blk_drewN ?_ _ | refine blk_drew ?_ | refine blk_alloc ?_ _)); exact HX1.out) hb); have n7_ := Aside0.mk (blk_below (g := w.heap.size + 1) (o := .cells #[.int .i64 a1_0, .int .i64 a1_1, .slice A1_2 l1_2.length c1_2] 24 (0, 0)) (by (with_reducible repeat (first | refine blk_drewN ?_ _ | refine blk_drew ?_ | refine blk_alloc ?_ _)); exact HX2.out) hb); have n8_ := Aside0.mk (blk_below (g := gC68) (o := .cells #[.int .i64 r51, .int .i64 r52, .slice Az58 r53.length cz58] 27 (0, 0)) (by (with_reducible repeat (first | refine blk_drewN ?_ _ | refine blk_drew ?_ | refine blk_alloc ?_ _)); exact HX67.out) hb); have n9_ := Aside0.mk (blk_below (g := w7.heap.size) (o := .cells #[.int .i64 a0_0, .int .i64 a0_1, .slice Az86 l0_2.length cz86] 27 (0, 0)) (by (with_reducible repeat (first | refine blk_drewN ?_ _ | refine blk_drew ?_ | refine blk_alloc ?_ _)); exact HX99.out) hb); have n10_ := Aside0.mk (blk_below (g := w8.heap.size) (o := .cells #[.int .i64 a1_0, .int .i64 a1_1, .slice Az103 l1_2.length cz103] 27 (0, 0)) (by (with_reducible repeat (first | refine blk_drewN ?_ _ | refine blk_drew ?_ | refine blk_alloc ?_ _)); exact HX120.out) hb); have n11_ := Aside0.mk (blk_below (g := w9.heap.size) (o := .cells #[.int .i64 r51, .int .i64 r52, .slice Az124 r53.length cz124] 27 (0, 0)) (by (with_reducible repeat (first | refine blk_drewN ?_ _ | refine blk_drew ?_ | refine blk_alloc ?_ _)); exact HX145.out) hb); have n12_ := Aside0.mk (below_step (by repeat (first | (with_reducible first | exact HB.out | apply below_alloc | apply pw_below_drewN | apply below_drew1) | exact HB.out)) hb); have C447 : Aside0 (w20.heap.size ≤ w21.heap.size) := ⟨by have h_ := hb.size; (try simp at h_); omega⟩; have CCn_ := Aside0.mk (And.intro CC.out C447.out); clear CC; have CC := CCn_; clear CCn_; clear HO57; clear HO85; clear HO102; clear HO123; clear HO420; clear HX1; clear HX2; clear HX67; clear HX99; clear HX120; clear HX145; clear HB; clear hl422; clear hx423; clear hx424; clear hx425; clear hl426; clear hx427; clear hx428; clear hx429; clear hl430; clear hx431; clear hx432; clear hx433; clear hl434; clear hx435; clear hx436; clear hx437; clear hl438; clear hx439; clear hx440; clear hx441; clear hl442; clear hx443; clear hx444; clear hx445; have HO57 := n1_; clear n1_; have HO85 := n2_; clear n2_; have HO102 := n3_; clear n3_; have HO123 := n4_; clear n4_; have HO420 := n5_; clear n5_; have HX1 := n6_; clear n6_; have HX2 := n7_; clear n7_; have HX67 := n8_; clear n8_; have HX99 := n9_; clear n9_; have HX120 := n10_; clear n10_; have HX145 := n11_; clear n11_; have HB := n12_; clear n12_; have HO448 := Aside0.mk (Kd.S_lower (base' := w.heap.size) (Kd.S_mono (Kd.S_bound ho0_) (ok' := fun k_ => w20.heap.size ≤ k_ ∧ k_ < w21.heap.size) (fun k_ hk_ => ⟨by have h_ := hk_.2.1; (try simp at h_); omega, hk_.2.2.1⟩)) (by have := CC.out; first | omega | (simp; done) | (simp; omega))); obtain ⟨Az449, cz449, ez449⟩ := Kd.S_slice HO448.out; subst ez449; (try clear hb); (try clear ho0_); have hl450 : w.heap.size < w21.heap.size := blk_lt HX1.out; have hx451 : w21.cell? ⟨w.heap.size, 0, none⟩ = some (.int .i64 a0_0) := (blk_cell HX1.out 0).trans rfl; have hx452 : w21.cell? ⟨w.heap.size, 1, none⟩ = some (.int .i64 a0_1) := (blk_cell HX1.out 1).trans rfl; have hx453 : w21.cell? ⟨w.heap.size, 2, none⟩ = some (.slice A0_2 l0_2.length c0_2) := (blk_cell HX1.out 2).trans rfl; have hl454 : w.heap.size + 1 < w21.heap.size := blk_lt HX2.out; have hx455 : w21.cell? ⟨w.heap.size + 1, 0, none⟩ = some (.int .i64 a1_0) := (blk_cell HX2.out 0).trans rfl; have hx456 : w21.cell? ⟨w.heap.size + 1, 1, none⟩ = some (.int .i64 a1_1) := (blk_cell HX2.out 1).trans rfl; have hx457 : w21.cell? ⟨w.heap.size + 1, 2, none⟩ = some (.slice A1_2 l1_2.length c1_2) := (blk_cell HX2.out 2).trans rfl; have hl458 : gC68 < w21.heap.size := blk_lt HX67.out; have hx459 : w21.cell? ⟨gC68, 0, none⟩ = some (.int .i64 r51) := (blk_cell HX67.out 0).trans rfl; have hx460 : w21.cell? ⟨gC68, 1, none⟩ = some (.int .i64 r52) := (blk_cell HX67.out 1).trans rfl; have hx461 : w21.cell? ⟨gC68, 2, none⟩ = some (.slice Az58 r53.length cz58) := (blk_cell HX67.out 2).trans rfl; have hl462 : w7.heap.size < w21.heap.size := blk_lt HX99.out; have hx463 : w21.cell? ⟨w7.heap.size, 0, none⟩ = some (.int .i64 a0_0) := (blk_cell HX99.out 0).trans rfl; have hx464 : w21.cell? ⟨w7.heap.size, 1, none⟩ = some (.int .i64 a0_1) := (blk_cell HX99.out 1).trans rfl; have hx465 : w21.cell? ⟨w7.heap.size, 2, none⟩ = some (.slice Az86 l0_2.length cz86) := (blk_cell HX99.out 2).trans rfl; have hl466 : w8.heap.size < w21.heap.size := blk_lt HX120.out; have hx467 : w21.cell? ⟨w8.heap.size, 0, none⟩ = some (.int .i64 a1_0) := (blk_cell HX120.out 0).trans rfl; have hx468 : w21.cell? ⟨w8.heap.size, 1, none⟩ = some (.int .i64 a1_1) := (blk_cell HX120.out 1).trans rfl; have hx469 : w21.cell? ⟨w8.heap.size, 2, none⟩ = some (.slice Az103 l1_2.length cz103) := (blk_cell HX120.out 2).trans rfl; have hl470 : w9.heap.size < w21.heap.size := blk_lt HX145.out; have hx471 : w21.cell? ⟨w9.heap.size, 0, none⟩ = some (.int .i64 r51) := (blk_cell HX145.out 0).trans rfl; have hx472 : w21.cell? ⟨w9.heap.size, 1, none⟩ = some (.int .i64 r52) := (blk_cell HX145.out 1).trans rfl; have hx473 : w21.cell? ⟨w9.heap.size, 2, none⟩ = some (.slice Az124 r53.length cz124) := (blk_cell HX145.out 2).trans rfl) | (go_at_call 32; (with_reducible refine (impl_StackRows.calls k a0_0 a0_1 _ _ l0_2 a1_0 a1_1 _ _ l1_2 r51 r52 r53 r54 _ ?side1 ?side2 ?side3 ?side4 A474.out).mono ?_); (case side1 => exact (Kd.S_reads' (n := l0_2.length) (A := Az421) (c := cz421) (by (with_reducible repeat (first | apply Kd.S_alloc | apply Kd.S_drewN | apply Kd.S_drew)); exact HO420.out)).2.2); (case side2 => exact (Kd.S_reads' (n := l0_2.length) (A := Az421) (c := cz421) HO420.out).2.1); (case side3 => exact (Kd.S_reads' (n := l1_2.length) (A := Az449) (c := cz449) (by (with_reducible repeat (first | apply Kd.S_alloc | apply Kd.S_drewN | apply Kd.S_drew)); exact HO448.out)).2.2); (case side4 => exact (Kd.S_reads' (n := l1_2.length) (A := Az449) (c := cz449) HO448.out).2.1); rintro e w22 ⟨v100_, rfl, ho0_, hb⟩; have n1_ := Aside0.mk (Kd.S_below (by (with_reducible repeat (first | apply Kd.S_alloc | apply Kd.S_drewN | apply Kd.S_drew)); exact HO57.out) hb); have n2_ := Aside0.mk (Kd.S_below (by (with_reducible repeat (first | apply Kd.S_alloc | apply Kd.S_drewN | apply Kd.S_drew)); exact HO85.out) hb); have n3_ := Aside0.mk (Kd.S_below (by (with_reducible repeat (first | apply Kd.S_alloc | apply Kd.S_drewN | apply Kd.S_drew)); exact HO102.out) hb); have n4_ := Aside0.mk (Kd.S_below (by (with_reducible repeat (first | apply Kd.S_alloc | apply Kd.S_drewN | apply Kd.S_drew)); exact HO123.out) hb); have n5_ := Aside0.mk (Kd.S_below (by (with_reducible repeat (first | apply Kd.S_alloc | apply Kd.S_drewN | apply Kd.S_drew)); exact HO420.out) hb); have n6_ := Aside0.mk (Kd.S_below (by (with_reducible repeat (first | apply Kd.S_alloc | apply Kd.S_drewN | apply Kd.S_drew)); exact HO448.out) hb); (try clear hzc0_); (try clear hzf0_); (try clear hzc1_); (try clear hzf1_); (try clear hzc2_); (try clear hzf2_); (try clear hzl_); (first | (have hzn_ := Aside0.mk (blk_below (g := w21.heap.size) (o := .cells #[(.int .i64 0 : Value), (.int .i64 0 : Value), (.slice none 0 0 : Value)] 27 (0, 0)) (by exact blk_new_at (by simp)) hb)) | (have hzn_ := Aside0.mk (blk_below (o := .cells #[(.int .i64 0 : Value), (.int .i64 0 : Value), (.slice none 0 0 : Value)] 27 (0, 0)) hz_.out hb); clear hz_) | skip); (try (have hz_ := hzn_; clear hzn_)); (try have hzc0_ : w22.cell? ⟨_, 0, none⟩ = some ((.int .i64 0 : Value)) := (blk_cell hz_.out 0).trans rfl); (try have hzf0_ := blk_frozen hz_.out 0); (try have hzc1_ : w22.cell? ⟨_, 1, none⟩ = some ((.int .i64 0 : Value)) := (blk_cell hz_.out 1).trans rfl); (try have hzf1_ := blk_frozen hz_.out 1); (try have hzc2_ : w22.cell? ⟨_, 2, none⟩ = some ((.slice none 0 0 : Value)) := (blk_cell hz_.out 2).trans rfl); (try have hzf2_ := blk_frozen hz_.out 2); (try have hzl_ := blk_lt hz_.out); have n7_ := Aside0.mk (blk_below (g := w.heap.size) (o := .cells #[.int .i64 a0_0, .int .i64 a0_1, .slice A0_2 l0_2.length c0_2] 24 (0, 0)) (by (with_reducible repeat (first | refine blk_drewN ?_ _ | refine blk_drew ?_ | refine blk_alloc ?_ _)); exact HX1.out) hb); have n8_ := Aside0.mk (blk_below (g := w.heap.size + 1) (o := .cells #[.int .i64 a1_0, .int .i64 a1_1, .slice A1_2 l1_2.length c1_2] 24 (0, 0)) (by (with_reducible repeat (first | refine blk_drewN ?_ _ | refine blk_drew ?_ | refine blk_alloc ?_ _)); exact HX2.out) hb); have n9_ := Aside0.mk (blk_below (g := gC68) (o := .cells #[.int .i64 r51, .int .i64 r52, .slice Az58 r53.length cz58] 27 (0, 0)) (by (with_reducible repeat (first | refine blk_drewN ?_ _ | refine blk_drew ?_ | refine blk_alloc ?_ _)); exact HX67.out) hb); have n10_ := Aside0.mk (blk_below (g := w7.heap.size) (o := .cells #[.int .i64 a0_0, .int .i64 a0_1, .slice Az86 l0_2.length cz86] 27 (0, 0)) (by (with_reducible repeat (first | refine blk_drewN ?_ _ | refine blk_drew ?_ | refine blk_alloc ?_ _)); exact HX99.out) hb); have n11_ := Aside0.mk (blk_below (g := w8.heap.size) (o := .cells #[.int .i64 a1_0, .int .i64 a1_1, .slice Az103 l1_2.length cz103] 27 (0, 0)) (by (with_reducible repeat (first | refine blk_drewN ?_ _ | refine blk_drew ?_ | refine blk_alloc ?_ _)); exact HX120.out) hb); have n12_ := Aside0.mk (blk_below (g := w9.heap.size) (o := .cells #[.int .i64 r51, .int .i64 r52, .slice Az124 r53.length cz124] 27 (0, 0)) (by (with_reducible repeat (first | refine blk_drewN ?_ _ | refine blk_drew ?_ | refine blk_alloc ?_ _)); exact HX145.out) hb); have n13_ := Aside0.mk (below_step (by repeat (first | (with_reducible first | exact HB.out | apply below_alloc | apply pw_below_drewN | apply below_drew1) | exact HB.out)) hb); have C475 : Aside0 (w21.heap.size ≤ w22.heap.size) := ⟨by have h_ := hb.size; (try simp at h_); omega⟩; have CCn_ := Aside0.mk (And.intro CC.out C475.out); clear CC; have CC := CCn_; clear CCn_; clear HO57; clear HO85; clear HO102; clear HO123; clear HO420; clear HO448; clear HX1; clear HX2; clear HX67; clear HX99; clear HX120; clear HX145; clear HB; clear hl450; clear hx451; clear hx452; clear hx453; clear hl454; clear hx455; clear hx456; clear hx457; clear hl458; clear hx459; clear hx460; clear hx461; clear hl462; clear hx463; clear hx464; clear hx465; clear hl466; clear hx467; clear hx468; clear hx469; clear hl470; clear hx471; clear hx472; clear hx473; have HO57 := n1_; clear n1_; have HO85 := n2_; clear n2_; have HO102 := n3_; clear n3_; have HO123 := n4_; clear n4_; have HO420 := n5_; clear n5_; have HO448 := n6_; clear n6_; have HX1 := n7_; clear n7_; have HX2 := n8_; clear n8_; have HX67 := n9_; clear n9_; have HX99 := n10_; clear n10_; have HX120 := n11_; clear n11_; have HX145 := n12_; clear n12_; have HB := n13_; clear n13_; have HO476 := Aside0.mk (Kd.S_lower (base' := w.heap.size) (Kd.S_mono (Kd.S_bound ho0_) (ok' := fun k_ => w21.heap.size ≤ k_ ∧ k_ < w22.heap.size) (fun k_ hk_ => ⟨by have h_ := hk_.2.1; (try simp at h_); omega, hk_.2.2.1⟩)) (by have := CC.out; first | omega | (simp; done) | (simp; omega))); obtain ⟨Az477, cz477, ez477⟩ := Kd.S_slice HO476.out; subst ez477; (try clear hb); (try clear ho0_); have hl478 : w.heap.size < w22.heap.size := blk_lt HX1.out; have hx479 : w22.cell? ⟨w.heap.size, 0, none⟩ = some (.int .i64 a0_0) := (blk_cell HX1.out 0).trans rfl; have hx480 : w22.cell? ⟨w.heap.size, 1, none⟩ = some (.int .i64 a0_1) := (blk_cell HX1.out 1).trans rfl; have hx481 : w22.cell? ⟨w.heap.size, 2, none⟩ = some (.slice A0_2 l0_2.length c0_2) := (blk_cell HX1.out 2).trans rfl; have hl482 : w.heap.size + 1 < w22.heap.size := blk_lt HX2.out; have hx483 : w22.cell? ⟨w.heap.size + 1, 0, none⟩ = some (.int .i64 a1_0) := (blk_cell HX2.out 0).trans rfl; have hx484 : w22.cell? ⟨w.heap.size + 1, 1, none⟩ = some (.int .i64 a1_1) := (blk_cell HX2.out 1).trans rfl; have hx485 : w22.cell? ⟨w.heap.size + 1, 2, none⟩ = some (.slice A1_2 l1_2.length c1_2) := (blk_cell HX2.out 2).trans rfl; have hl486 : gC68 < w22.heap.size := blk_lt HX67.out; have hx487 : w22.cell? ⟨gC68, 0, none⟩ = some (.int .i64 r51) := (blk_cell HX67.out 0).trans rfl; have hx488 : w22.cell? ⟨gC68, 1, none⟩ = some (.int .i64 r52) := (blk_cell HX67.out 1).trans rfl; have hx489 : w22.cell? ⟨gC68, 2, none⟩ = some (.slice Az58 r53.length cz58) := (blk_cell HX67.out 2).trans rfl; have hl490 : w7.heap.size < w22.heap.size := blk_lt HX99.out; have hx491 : w22.cell? ⟨w7.heap.size, 0, none⟩ = some (.int .i64 a0_0) := (blk_cell HX99.out 0).trans rfl; have hx492 : w22.cell? ⟨w7.heap.size, 1, none⟩ = some (.int .i64 a0_1) := (blk_cell HX99.out 1).trans rfl; have hx493 : w22.cell? ⟨w7.heap.size, 2, none⟩ = some (.slice Az86 l0_2.length cz86) := (blk_cell HX99.out 2).trans rfl; have hl494 : w8.heap.size < w22.heap.size := blk_lt HX120.out; have hx495 : w22.cell? ⟨w8.heap.size, 0, none⟩ = some (.int .i64 a1_0) := (blk_cell HX120.out 0).trans rfl; have hx496 : w22.cell? ⟨w8.heap.size, 1, none⟩ = some (.int .i64 a1_1) := (blk_cell HX120.out 1).trans rfl; have hx497 : w22.cell? ⟨w8.heap.size, 2, none⟩ = some (.slice Az103 l1_2.length cz103) := (blk_cell HX120.out 2).trans rfl; have hl498 : w9.heap.size < w22.heap.size := blk_lt HX145.out; have hx499 : w22.cell? ⟨w9.heap.size, 0, none⟩ = some (.int .i64 r51) := (blk_cell HX145.out 0).trans rfl; have hx500 : w22.cell? ⟨w9.heap.size, 1, none⟩ = some (.int .i64 r52) := (blk_cell HX145.out 1).trans rfl; have hx501 : w22.cell? ⟨w9.heap.size, 2, none⟩ = some (.slice Az124 r53.length cz124) := (blk_cell HX145.out 2).trans rfl))
    all_goals (go_wp2_with fail; go_meet; first | (have hq_ := hz_.out; clear hq_; exact ⟨_, _, _, rfl, rfl, ⟨Kd.S_mono (Kd.S_set (Kd.S_set (Kd.S_set (HO476.out) (hz_.out) (by decide) 0 _) (blk_set (hz_.out) 0 _) (by decide) 1 _) (blk_set (blk_set (hz_.out) 0 _) 1 _) (by decide) 2 _) (fun k_ hk_ => ⟨by have := CC.out; have h1_ := hk_.1; omega, by rw [size_set, size_set, size_set]; exact hk_.2⟩)⟩, ⟨blk_put (blk_put (blk_put (hz_.out) 0 _ rfl) 1 _ rfl) 2 _ rfl⟩, ⟨Kd.S_set (Kd.S_set (Kd.S_set (HO57.out) (hz_.out) (by decide) 0 _) (blk_set (hz_.out) 0 _) (by decide) 1 _) (blk_set (blk_set (hz_.out) 0 _) 1 _) (by decide) 2 _⟩, ⟨Kd.S_set (Kd.S_set (Kd.S_set (HO85.out) (hz_.out) (by decide) 0 _) (blk_set (hz_.out) 0 _) (by decide) 1 _) (blk_set (blk_set (hz_.out) 0 _) 1 _) (by decide) 2 _⟩, ⟨Kd.S_set (Kd.S_set (Kd.S_set (HO102.out) (hz_.out) (by decide) 0 _) (blk_set (hz_.out) 0 _) (by decide) 1 _) (blk_set (blk_set (hz_.out) 0 _) 1 _) (by decide) 2 _⟩, ⟨Kd.S_set (Kd.S_set (Kd.S_set (HO123.out) (hz_.out) (by decide) 0 _) (blk_set (hz_.out) 0 _) (by decide) 1 _) (blk_set (blk_set (hz_.out) 0 _) 1 _) (by decide) 2 _⟩, ⟨blk_far (p := ⟨_, 2, none⟩) (blk_far (p := ⟨_, 1, none⟩) (blk_far (p := ⟨_, 0, none⟩) (HX1.out) (by have := CC.out; dsimp only; omega) _) (by have := CC.out; dsimp only; omega) _) (by have := CC.out; dsimp only; omega) _⟩, ⟨blk_far (p := ⟨_, 2, none⟩) (blk_far (p := ⟨_, 1, none⟩) (blk_far (p := ⟨_, 0, none⟩) (HX2.out) (by have := CC.out; dsimp only; omega) _) (by have := CC.out; dsimp only; omega) _) (by have := CC.out; dsimp only; omega) _⟩, ⟨blk_far (p := ⟨_, 2, none⟩) (blk_far (p := ⟨_, 1, none⟩) (blk_far (p := ⟨_, 0, none⟩) (HX67.out) (by have := CC.out; dsimp only; omega) _) (by have := CC.out; dsimp only; omega) _) (by have := CC.out; dsimp only; omega) _⟩, ⟨blk_far (p := ⟨_, 2, none⟩) (blk_far (p := ⟨_, 1, none⟩) (blk_far (p := ⟨_, 0, none⟩) (HX99.out) (by have := CC.out; dsimp only; omega) _) (by have := CC.out; dsimp only; omega) _) (by have := CC.out; dsimp only; omega) _⟩, ⟨blk_far (p := ⟨_, 2, none⟩) (blk_far (p := ⟨_, 1, none⟩) (blk_far (p := ⟨_, 0, none⟩) (HX120.out) (by have := CC.out; dsimp only; omega) _) (by have := CC.out; dsimp only; omega) _) (by have := CC.out; dsimp only; omega) _⟩, ⟨blk_far (p := ⟨_, 2, none⟩) (blk_far (p := ⟨_, 1, none⟩) (blk_far (p := ⟨_, 0, none⟩) (HX145.out) (by have := CC.out; dsimp only; omega) _) (by have := CC.out; dsimp only; omega) _) (by have := CC.out; dsimp only; omega) _⟩, ⟨below_set (below_set (below_set (HB.out) (by have := CC.out; omega)) (by have := CC.out; omega)) (by have := CC.out; omega)⟩, ⟨by rw [size_set, size_set, size_set]; have := CC.out; omega⟩⟩) | exact ⟨_, _, _, rfl, rfl, ⟨Kd.S_mono (Kd.S_alloc HO476.out _) (fun k_ hk_ => ⟨by have := CC.out; have h1_ := hk_.1; omega, lt_alloc hk_.2⟩)⟩, ⟨blk_new _ _⟩, ⟨Kd.S_alloc HO57.out _⟩, ⟨Kd.S_alloc HO85.out _⟩, ⟨Kd.S_alloc HO102.out _⟩, ⟨Kd.S_alloc HO123.out _⟩, ⟨blk_alloc HX1.out _⟩, ⟨blk_alloc HX2.out _⟩, ⟨blk_alloc HX67.out _⟩, ⟨blk_alloc HX99.out _⟩, ⟨blk_alloc HX120.out _⟩, ⟨blk_alloc HX145.out _⟩, ⟨below_alloc HB.out _⟩, ⟨le_alloc (by have := CC.out; omega)⟩⟩)
  case rest =>
  (try clear hl393)
  (try clear hx394)
  (try clear hx395)
  (try clear hx396)
  (try clear hl397)
  (try clear hx398)
  (try clear hx399)
  (try clear hx400)
  (try clear hl401)
  (try clear hx402)
  (try clear hx403)
  (try clear hx404)
  (try clear hl405)
  (try clear hx406)
  (try clear hx407)
  (try clear hx408)
  (try clear hl409)
  (try clear hx410)
  (try clear hx411)
  (try clear hx412)
  (try clear hl413)
  (try clear hx414)
  (try clear hx415)
  (try clear hx416)
  (try clear HO57)
  (try clear HO85)
  (try clear HO102)
  (try clear HO123)
  (try clear HX1)
  (try clear HX2)
  (try clear HX67)
  (try clear HX99)
  (try clear HX120)
  (try clear HX145)
  (try clear HB)
  obtain ⟨gC503, Az477, cz477, rfl, rfl, HO476, HX502, HO57, HO85, HO102, HO123, HX1, HX2, HX67, HX99, HX120, HX145, HB, C504⟩ := hcut
  rename World => w23
  have C505 : Aside0 (gC503 + 1 ≤ w23.heap.size) := ⟨blk_lt HX502.out⟩
  have CCn_ := Aside0.mk (And.intro CC.out C504.out)
  clear CC
  have CC := CCn_
  clear CCn_
  have CCn_ := Aside0.mk (And.intro CC.out C505.out)
  clear CC
  have CC := CCn_
  clear CCn_
  have hl506 : w.heap.size < w23.heap.size := blk_lt HX1.out
  have hx507 : w23.cell? ⟨w.heap.size, 0, none⟩ = some (.int .i64 a0_0) := (blk_cell HX1.out 0).trans rfl
  have hx508 : w23.cell? ⟨w.heap.size, 1, none⟩ = some (.int .i64 a0_1) := (blk_cell HX1.out 1).trans rfl
  have hx509 : w23.cell? ⟨w.heap.size, 2, none⟩ = some (.slice A0_2 l0_2.length c0_2) := (blk_cell HX1.out 2).trans rfl
  have hl510 : w.heap.size + 1 < w23.heap.size := blk_lt HX2.out
  have hx511 : w23.cell? ⟨w.heap.size + 1, 0, none⟩ = some (.int .i64 a1_0) := (blk_cell HX2.out 0).trans rfl
  have hx512 : w23.cell? ⟨w.heap.size + 1, 1, none⟩ = some (.int .i64 a1_1) := (blk_cell HX2.out 1).trans rfl
  have hx513 : w23.cell? ⟨w.heap.size + 1, 2, none⟩ = some (.slice A1_2 l1_2.length c1_2) := (blk_cell HX2.out 2).trans rfl
  have hl514 : gC68 < w23.heap.size := blk_lt HX67.out
  have hx515 : w23.cell? ⟨gC68, 0, none⟩ = some (.int .i64 r51) := (blk_cell HX67.out 0).trans rfl
  have hx516 : w23.cell? ⟨gC68, 1, none⟩ = some (.int .i64 r52) := (blk_cell HX67.out 1).trans rfl
  have hx517 : w23.cell? ⟨gC68, 2, none⟩ = some (.slice Az58 r53.length cz58) := (blk_cell HX67.out 2).trans rfl
  have hl518 : w7.heap.size < w23.heap.size := blk_lt HX99.out
  have hx519 : w23.cell? ⟨w7.heap.size, 0, none⟩ = some (.int .i64 a0_0) := (blk_cell HX99.out 0).trans rfl
  have hx520 : w23.cell? ⟨w7.heap.size, 1, none⟩ = some (.int .i64 a0_1) := (blk_cell HX99.out 1).trans rfl
  have hx521 : w23.cell? ⟨w7.heap.size, 2, none⟩ = some (.slice Az86 l0_2.length cz86) := (blk_cell HX99.out 2).trans rfl
  have hl522 : w8.heap.size < w23.heap.size := blk_lt HX120.out
  have hx523 : w23.cell? ⟨w8.heap.size, 0, none⟩ = some (.int .i64 a1_0) := (blk_cell HX120.out 0).trans rfl
  have hx524 : w23.cell? ⟨w8.heap.size, 1, none⟩ = some (.int .i64 a1_1) := (blk_cell HX120.out 1).trans rfl
  have hx525 : w23.cell? ⟨w8.heap.size, 2, none⟩ = some (.slice Az103 l1_2.length cz103) := (blk_cell HX120.out 2).trans rfl
  have hl526 : w9.heap.size < w23.heap.size := blk_lt HX145.out
  have hx527 : w23.cell? ⟨w9.heap.size, 0, none⟩ = some (.int .i64 r51) := (blk_cell HX145.out 0).trans rfl
  have hx528 : w23.cell? ⟨w9.heap.size, 1, none⟩ = some (.int .i64 r52) := (blk_cell HX145.out 1).trans rfl
  have hx529 : w23.cell? ⟨w9.heap.size, 2, none⟩ = some (.slice Az124 r53.length cz124) := (blk_cell HX145.out 2).trans rfl
  have hl530 : gC503 < w23.heap.size := blk_lt HX502.out
  have hx531 : w23.cell? ⟨gC503, 0, none⟩ = some (.int .i64 r51) := (blk_cell HX502.out 0).trans rfl
  have hx532 : w23.cell? ⟨gC503, 1, none⟩ = some (.int .i64 r52) := (blk_cell HX502.out 1).trans rfl
  have hx533 : w23.cell? ⟨gC503, 2, none⟩ = some (.slice Az477 r53.length cz477) := (blk_cell HX502.out 2).trans rfl
  go_wp2_with (first | ((with_reducible refine gate_callee (f := 19) rfl ?_); refine goesL_ (some 104) rfl rfl Try.func19 (by kernel_rfl) rfl #[.agg #[.int .i64 r51, .int .i64 r52, .slice Az477 r53.length cz477], .agg #[.int .i64 r51, .int .i64 r52, .slice Az58 r53.length cz58]] rfl (by (try simp only [List.map_toArray, List.map_cons, List.map_nil]); first | done | rfl | (simp only [List.length_drop, List.length_take]; rfl)) ?_; (with_reducible refine (laws_eqMatrix.calls k r51 r52 _ _ r53 r51 r52 _ _ r53 true _ ?side1 ?side2 ?side3 ?side4 A534.out).mono ?_); (case side1 => exact (Kd.S_reads' (n := r53.length) (A := Az477) (c := cz477) (by (with_reducible repeat (first | apply Kd.S_alloc | apply Kd.S_drewN | apply Kd.S_drew)); exact HO476.out)).2.2); (case side2 => exact (Kd.S_reads' (n := r53.length) (A := Az477) (c := cz477) HO476.out).2.1); (case side3 => exact (Kd.S_reads' (n := r53.length) (A := Az58) (c := cz58) (by (with_reducible repeat (first | apply Kd.S_alloc | apply Kd.S_drewN | apply Kd.S_drew)); exact HO57.out)).2.2); (case side4 => exact (Kd.S_reads' (n := r53.length) (A := Az58) (c := cz58) HO57.out).2.1); rintro e w24 ⟨rfl, hb⟩; refine ⟨_, rfl, ?_⟩; have n1_ := Aside0.mk (Kd.S_below (by (with_reducible repeat (first | apply Kd.S_alloc | apply Kd.S_drewN | apply Kd.S_drew)); exact HO57.out) hb); have n2_ := Aside0.mk (Kd.S_below (by (with_reducible repeat (first | apply Kd.S_alloc | apply Kd.S_drewN | apply Kd.S_drew)); exact HO85.out) hb); have n3_ := Aside0.mk (Kd.S_below (by (with_reducible repeat (first | apply Kd.S_alloc | apply Kd.S_drewN | apply Kd.S_drew)); exact HO102.out) hb); have n4_ := Aside0.mk (Kd.S_below (by (with_reducible repeat (first | apply Kd.S_alloc | apply Kd.S_drewN | apply Kd.S_drew)); exact HO123.out) hb); have n5_ := Aside0.mk (Kd.S_below (by (with_reducible repeat (first | apply Kd.S_alloc | apply Kd.S_drewN | apply Kd.S_drew)); exact HO476.out) hb); have n6_ := Aside0.mk (blk_below (g := w.heap.size) (o := .cells #[.int .i64 a0_0, .int .i64 a0_1, .slice A0_2 l0_2.length c0_2] 24 (0, 0)) (by (with_reducible repeat (first | refine blk_drewN ?_ _ | refine blk_drew ?_ | refine blk_alloc ?_ _)); exact HX1.out) hb); have n7_ := Aside0.mk (blk_below (g := w.heap.size + 1) (o := .cells #[.int .i64 a1_0, .int .i64 a1_1, .slice A1_2 l1_2.length c1_2] 24 (0, 0)) (by (with_reducible repeat (first | refine blk_drewN ?_ _ | refine blk_drew ?_ | refine blk_alloc ?_ _)); exact HX2.out) hb); have n8_ := Aside0.mk (blk_below (g := gC68) (o := .cells #[.int .i64 r51, .int .i64 r52, .slice Az58 r53.length cz58] 27 (0, 0)) (by (with_reducible repeat (first | refine blk_drewN ?_ _ | refine blk_drew ?_ | refine blk_alloc ?_ _)); exact HX67.out) hb); have n9_ := Aside0.mk (blk_below (g := w7.heap.size) (o := .cells #[.int .i64 a0_0, .int .i64 a0_1, .slice Az86 l0_2.length cz86] 27 (0, 0)) (by (with_reducible repeat (first | refine blk_drewN ?_ _ | refine blk_drew ?_ | refine blk_alloc ?_ _)); exact HX99.out) hb); have n10_ := Aside0.mk (blk_below (g := w8.heap.size) (o := .cells #[.int .i64 a1_0, .int .i64 a1_1, .slice Az103 l1_2.length cz103] 27 (0, 0)) (by (with_reducible repeat (first | refine blk_drewN ?_ _ | refine blk_drew ?_ | refine blk_alloc ?_ _)); exact HX120.out) hb); have n11_ := Aside0.mk (blk_below (g := w9.heap.size) (o := .cells #[.int .i64 r51, .int .i64 r52, .slice Az124 r53.length cz124] 27 (0, 0)) (by (with_reducible repeat (first | refine blk_drewN ?_ _ | refine blk_drew ?_ | refine blk_alloc ?_ _)); exact HX145.out) hb); have n12_ := Aside0.mk (blk_below (g := gC503) (o := .cells #[.int .i64 r51, .int .i64 r52, .slice Az477 r53.length cz477] 27 (0, 0)) (by (with_reducible repeat (first | refine blk_drewN ?_ _ | refine blk_drew ?_ | refine blk_alloc ?_ _)); exact HX502.out) hb); have n13_ := Aside0.mk (below_step (by repeat (first | (with_reducible first | exact HB.out | apply below_alloc | apply pw_below_drewN | apply below_drew1) | exact HB.out)) hb); have C535 : Aside0 (w23.heap.size ≤ w24.heap.size) := ⟨by have h_ := hb.size; (try simp at h_); omega⟩; have CCn_ := Aside0.mk (And.intro CC.out C535.out); clear CC; have CC := CCn_; clear CCn_; clear HO57; clear HO85; clear HO102; clear HO123; clear HO476; clear HX1; clear HX2; clear HX67; clear HX99; clear HX120; clear HX145; clear HX502; clear HB; clear hl506; clear hx507; clear hx508; clear hx509; clear hl510; clear hx511; clear hx512; clear hx513; clear hl514; clear hx515; clear hx516; clear hx517; clear hl518; clear hx519; clear hx520; clear hx521; clear hl522; clear hx523; clear hx524; clear hx525; clear hl526; clear hx527; clear hx528; clear hx529; clear hl530; clear hx531; clear hx532; clear hx533; have HO57 := n1_; clear n1_; have HO85 := n2_; clear n2_; have HO102 := n3_; clear n3_; have HO123 := n4_; clear n4_; have HO476 := n5_; clear n5_; have HX1 := n6_; clear n6_; have HX2 := n7_; clear n7_; have HX67 := n8_; clear n8_; have HX99 := n9_; clear n9_; have HX120 := n10_; clear n10_; have HX145 := n11_; clear n11_; have HX502 := n12_; clear n12_; have HB := n13_; clear n13_; (try clear hb); have hl536 : w.heap.size < w24.heap.size := blk_lt HX1.out; have hx537 : w24.cell? ⟨w.heap.size, 0, none⟩ = some (.int .i64 a0_0) := (blk_cell HX1.out 0).trans rfl; have hx538 : w24.cell? ⟨w.heap.size, 1, none⟩ = some (.int .i64 a0_1) := (blk_cell HX1.out 1).trans rfl; have hx539 : w24.cell? ⟨w.heap.size, 2, none⟩ = some (.slice A0_2 l0_2.length c0_2) := (blk_cell HX1.out 2).trans rfl; have hl540 : w.heap.size + 1 < w24.heap.size := blk_lt HX2.out; have hx541 : w24.cell? ⟨w.heap.size + 1, 0, none⟩ = some (.int .i64 a1_0) := (blk_cell HX2.out 0).trans rfl; have hx542 : w24.cell? ⟨w.heap.size + 1, 1, none⟩ = some (.int .i64 a1_1) := (blk_cell HX2.out 1).trans rfl; have hx543 : w24.cell? ⟨w.heap.size + 1, 2, none⟩ = some (.slice A1_2 l1_2.length c1_2) := (blk_cell HX2.out 2).trans rfl; have hl544 : gC68 < w24.heap.size := blk_lt HX67.out; have hx545 : w24.cell? ⟨gC68, 0, none⟩ = some (.int .i64 r51) := (blk_cell HX67.out 0).trans rfl; have hx546 : w24.cell? ⟨gC68, 1, none⟩ = some (.int .i64 r52) := (blk_cell HX67.out 1).trans rfl; have hx547 : w24.cell? ⟨gC68, 2, none⟩ = some (.slice Az58 r53.length cz58) := (blk_cell HX67.out 2).trans rfl; have hl548 : w7.heap.size < w24.heap.size := blk_lt HX99.out; have hx549 : w24.cell? ⟨w7.heap.size, 0, none⟩ = some (.int .i64 a0_0) := (blk_cell HX99.out 0).trans rfl; have hx550 : w24.cell? ⟨w7.heap.size, 1, none⟩ = some (.int .i64 a0_1) := (blk_cell HX99.out 1).trans rfl; have hx551 : w24.cell? ⟨w7.heap.size, 2, none⟩ = some (.slice Az86 l0_2.length cz86) := (blk_cell HX99.out 2).trans rfl; have hl552 : w8.heap.size < w24.heap.size := blk_lt HX120.out; have hx553 : w24.cell? ⟨w8.heap.size, 0, none⟩ = some (.int .i64 a1_0) := (blk_cell HX120.out 0).trans rfl; have hx554 : w24.cell? ⟨w8.heap.size, 1, none⟩ = some (.int .i64 a1_1) := (blk_cell HX120.out 1).trans rfl; have hx555 : w24.cell? ⟨w8.heap.size, 2, none⟩ = some (.slice Az103 l1_2.length cz103) := (blk_cell HX120.out 2).trans rfl; have hl556 : w9.heap.size < w24.heap.size := blk_lt HX145.out; have hx557 : w24.cell? ⟨w9.heap.size, 0, none⟩ = some (.int .i64 r51) := (blk_cell HX145.out 0).trans rfl; have hx558 : w24.cell? ⟨w9.heap.size, 1, none⟩ = some (.int .i64 r52) := (blk_cell HX145.out 1).trans rfl; have hx559 : w24.cell? ⟨w9.heap.size, 2, none⟩ = some (.slice Az124 r53.length cz124) := (blk_cell HX145.out 2).trans rfl; have hl560 : gC503 < w24.heap.size := blk_lt HX502.out; have hx561 : w24.cell? ⟨gC503, 0, none⟩ = some (.int .i64 r51) := (blk_cell HX502.out 0).trans rfl; have hx562 : w24.cell? ⟨gC503, 1, none⟩ = some (.int .i64 r52) := (blk_cell HX502.out 1).trans rfl; have hx563 : w24.cell? ⟨gC503, 2, none⟩ = some (.slice Az477 r53.length cz477) := (blk_cell HX502.out 2).trans rfl) | ((with_reducible refine gate_callee (f := 28) rfl ?_); refine goesL_ (some 113) rfl rfl Try.func28 (by kernel_rfl) rfl #[.agg #[.int .i64 r51, .int .i64 r52, .slice Az124 r53.length cz124], .int .i64 1] rfl (by (try simp only [List.map_toArray, List.map_cons, List.map_nil]); first | done | rfl | (simp only [List.length_drop, List.length_take]; rfl)) ?_; (with_reducible refine (calls_as ?eq_ (laws_heldMatrix.calls k r51 r52 Az124 cz124 ys364 1 m363 _ ?side1 ?side2 A564.out)).mono ?_); (case eq_ => rw [show ys364.length = r53.length from (Kd.S_reads' HO123.out).1.symm]); (case side1 => exact (Kd.S_reads' (n := r53.length) (A := Az124) (c := cz124) (by (with_reducible repeat (first | apply Kd.S_alloc | apply Kd.S_drewN | apply Kd.S_drew)); exact HO123.out)).2.2); (case side2 => exact Nat.le_trans (Nat.le_of_eq (Kd.S_reads' HO123.out).1.symm) (Kd.S_reads' HO123.out).2.1); rintro e w25 ⟨rfl, hb⟩; refine ⟨_, rfl, ?_⟩; have n1_ := Aside0.mk (Kd.S_below (by (with_reducible repeat (first | apply Kd.S_alloc | apply Kd.S_drewN | apply Kd.S_drew)); exact HO57.out) hb); have n2_ := Aside0.mk (Kd.S_below (by (with_reducible repeat (first | apply Kd.S_alloc | apply Kd.S_drewN | apply Kd.S_drew)); exact HO85.out) hb); have n3_ := Aside0.mk (Kd.S_below (by (with_reducible repeat (first | apply Kd.S_alloc | apply Kd.S_drewN | apply Kd.S_drew)); exact HO102.out) hb); have n4_ := Aside0.mk (Kd.S_below (by (with_reducible repeat (first | apply Kd.S_alloc | apply Kd.S_drewN | apply Kd.S_drew)); exact HO123.out) hb); have n5_ := Aside0.mk (Kd.S_below (by (with_reducible repeat (first | apply Kd.S_alloc | apply Kd.S_drewN | apply Kd.S_drew)); exact HO476.out) hb); have n6_ := Aside0.mk (blk_below (g := w.heap.size) (o := .cells #[.int .i64 a0_0, .int .i64 a0_1, .slice A0_2 l0_2.length c0_2] 24 (0, 0)) (by (with_reducible repeat (first | refine blk_drewN ?_ _ | refine blk_drew ?_ | refine blk_alloc ?_ _)); exact HX1.out) hb); have n7_ := Aside0.mk (blk_below (g := w.heap.size + 1) (o := .cells #[.int .i64 a1_0, .int .i64 a1_1, .slice A1_2 l1_2.length c1_2] 24 (0, 0)) (by (with_reducible repeat (first | refine blk_drewN ?_ _ | refine blk_drew ?_ | refine blk_alloc ?_ _)); exact HX2.out) hb); have n8_ := Aside0.mk (blk_below (g := gC68) (o := .cells #[.int .i64 r51, .int .i64 r52, .slice Az58 r53.length cz58] 27 (0, 0)) (by (with_reducible repeat (first | refine blk_drewN ?_ _ | refine blk_drew ?_ | refine blk_alloc ?_ _)); exact HX67.out) hb); have n9_ := Aside0.mk (blk_below (g := w7.heap.size) (o := .cells #[.int .i64 a0_0, .int .i64 a0_1, .slice Az86 l0_2.length cz86] 27 (0, 0)) (by (with_reducible repeat (first | refine blk_drewN ?_ _ | refine blk_drew ?_ | refine blk_alloc ?_ _)); exact HX99.out) hb); have n10_ := Aside0.mk (blk_below (g := w8.heap.size) (o := .cells #[.int .i64 a1_0, .int .i64 a1_1, .slice Az103 l1_2.length cz103] 27 (0, 0)) (by (with_reducible repeat (first | refine blk_drewN ?_ _ | refine blk_drew ?_ | refine blk_alloc ?_ _)); exact HX120.out) hb); have n11_ := Aside0.mk (blk_below (g := w9.heap.size) (o := .cells #[.int .i64 r51, .int .i64 r52, .slice Az124 r53.length cz124] 27 (0, 0)) (by (with_reducible repeat (first | refine blk_drewN ?_ _ | refine blk_drew ?_ | refine blk_alloc ?_ _)); exact HX145.out) hb); have n12_ := Aside0.mk (blk_below (g := gC503) (o := .cells #[.int .i64 r51, .int .i64 r52, .slice Az477 r53.length cz477] 27 (0, 0)) (by (with_reducible repeat (first | refine blk_drewN ?_ _ | refine blk_drew ?_ | refine blk_alloc ?_ _)); exact HX502.out) hb); have n13_ := Aside0.mk (below_step (by repeat (first | (with_reducible first | exact HB.out | apply below_alloc | apply pw_below_drewN | apply below_drew1) | exact HB.out)) hb); have C565 : Aside0 (w24.heap.size ≤ w25.heap.size) := ⟨by have h_ := hb.size; (try simp at h_); omega⟩; have CCn_ := Aside0.mk (And.intro CC.out C565.out); clear CC; have CC := CCn_; clear CCn_; clear HO57; clear HO85; clear HO102; clear HO123; clear HO476; clear HX1; clear HX2; clear HX67; clear HX99; clear HX120; clear HX145; clear HX502; clear HB; clear hl536; clear hx537; clear hx538; clear hx539; clear hl540; clear hx541; clear hx542; clear hx543; clear hl544; clear hx545; clear hx546; clear hx547; clear hl548; clear hx549; clear hx550; clear hx551; clear hl552; clear hx553; clear hx554; clear hx555; clear hl556; clear hx557; clear hx558; clear hx559; clear hl560; clear hx561; clear hx562; clear hx563; have HO57 := n1_; clear n1_; have HO85 := n2_; clear n2_; have HO102 := n3_; clear n3_; have HO123 := n4_; clear n4_; have HO476 := n5_; clear n5_; have HX1 := n6_; clear n6_; have HX2 := n7_; clear n7_; have HX67 := n8_; clear n8_; have HX99 := n9_; clear n9_; have HX120 := n10_; clear n10_; have HX145 := n11_; clear n11_; have HX502 := n12_; clear n12_; have HB := n13_; clear n13_; (try clear hb); have hl566 : w.heap.size < w25.heap.size := blk_lt HX1.out; have hx567 : w25.cell? ⟨w.heap.size, 0, none⟩ = some (.int .i64 a0_0) := (blk_cell HX1.out 0).trans rfl; have hx568 : w25.cell? ⟨w.heap.size, 1, none⟩ = some (.int .i64 a0_1) := (blk_cell HX1.out 1).trans rfl; have hx569 : w25.cell? ⟨w.heap.size, 2, none⟩ = some (.slice A0_2 l0_2.length c0_2) := (blk_cell HX1.out 2).trans rfl; have hl570 : w.heap.size + 1 < w25.heap.size := blk_lt HX2.out; have hx571 : w25.cell? ⟨w.heap.size + 1, 0, none⟩ = some (.int .i64 a1_0) := (blk_cell HX2.out 0).trans rfl; have hx572 : w25.cell? ⟨w.heap.size + 1, 1, none⟩ = some (.int .i64 a1_1) := (blk_cell HX2.out 1).trans rfl; have hx573 : w25.cell? ⟨w.heap.size + 1, 2, none⟩ = some (.slice A1_2 l1_2.length c1_2) := (blk_cell HX2.out 2).trans rfl; have hl574 : gC68 < w25.heap.size := blk_lt HX67.out; have hx575 : w25.cell? ⟨gC68, 0, none⟩ = some (.int .i64 r51) := (blk_cell HX67.out 0).trans rfl; have hx576 : w25.cell? ⟨gC68, 1, none⟩ = some (.int .i64 r52) := (blk_cell HX67.out 1).trans rfl; have hx577 : w25.cell? ⟨gC68, 2, none⟩ = some (.slice Az58 r53.length cz58) := (blk_cell HX67.out 2).trans rfl; have hl578 : w7.heap.size < w25.heap.size := blk_lt HX99.out; have hx579 : w25.cell? ⟨w7.heap.size, 0, none⟩ = some (.int .i64 a0_0) := (blk_cell HX99.out 0).trans rfl; have hx580 : w25.cell? ⟨w7.heap.size, 1, none⟩ = some (.int .i64 a0_1) := (blk_cell HX99.out 1).trans rfl; have hx581 : w25.cell? ⟨w7.heap.size, 2, none⟩ = some (.slice Az86 l0_2.length cz86) := (blk_cell HX99.out 2).trans rfl; have hl582 : w8.heap.size < w25.heap.size := blk_lt HX120.out; have hx583 : w25.cell? ⟨w8.heap.size, 0, none⟩ = some (.int .i64 a1_0) := (blk_cell HX120.out 0).trans rfl; have hx584 : w25.cell? ⟨w8.heap.size, 1, none⟩ = some (.int .i64 a1_1) := (blk_cell HX120.out 1).trans rfl; have hx585 : w25.cell? ⟨w8.heap.size, 2, none⟩ = some (.slice Az103 l1_2.length cz103) := (blk_cell HX120.out 2).trans rfl; have hl586 : w9.heap.size < w25.heap.size := blk_lt HX145.out; have hx587 : w25.cell? ⟨w9.heap.size, 0, none⟩ = some (.int .i64 r51) := (blk_cell HX145.out 0).trans rfl; have hx588 : w25.cell? ⟨w9.heap.size, 1, none⟩ = some (.int .i64 r52) := (blk_cell HX145.out 1).trans rfl; have hx589 : w25.cell? ⟨w9.heap.size, 2, none⟩ = some (.slice Az124 r53.length cz124) := (blk_cell HX145.out 2).trans rfl; have hl590 : gC503 < w25.heap.size := blk_lt HX502.out; have hx591 : w25.cell? ⟨gC503, 0, none⟩ = some (.int .i64 r51) := (blk_cell HX502.out 0).trans rfl; have hx592 : w25.cell? ⟨gC503, 1, none⟩ = some (.int .i64 r52) := (blk_cell HX502.out 1).trans rfl; have hx593 : w25.cell? ⟨gC503, 2, none⟩ = some (.slice Az477 r53.length cz477) := (blk_cell HX502.out 2).trans rfl))
  go_ret
  exact ⟨rfl, by repeat (first | (with_reducible first | exact HB.out | apply below_alloc | apply pw_below_drewN | apply below_drew1) | exact HB.out)⟩

end Go.Proofs.Ytopgelloghblaaa.P

namespace Go.Proofs.Ytopgelloghblaaa.P
open Go.RowKit Go.Proofs.YtopgelloghblaaaW.PrintWords Go.Proofs.YtopgelloghblaaaW.PrintLast Go.Proofs.YtopgelloghblaaaW.PrintMore
attribute [local go_sem] max2_int min2_int max_two min_two max_three min_three max_four min_four
set_option linter.unusedVariables false
set_option linter.unusedSimpArgs false

section
variable {H : Type} {enc : TypeId × Value → H} {P : Program} {w : World} {base : Nat} {held : Bool} {α : Type}
/-- Whatever reads as a datum of type t (at this depth) is a value of kind d. -/
def OpensAt (enc : TypeId × Value → H) (P : Program) (w : World) (base : Nat) (held : Bool) (n : Nat) (t : TypeId) (d : Kd α) (wf : α → Prop) : Prop :=
  ∀ cs x, DataW.trod enc P w base (fun _ => true) held n t cs = some x → ∃ a, d.K w a cs ∧ wf a
theorem opens_int (n : Nat) {t : TypeId} {k : IntKind} (ht : P.underlying t = some (.int k)) : OpensAt enc P w base held n t (Kd.int k) (fun a => (Lit.int k a).wf = true) := fun cs x h => by
  obtain ⟨a, rfl, _, hw⟩ := DataW.trod_int ht h
  exact ⟨a, rfl, hw⟩
theorem list_upto {Q : Nat → α → Prop} : ∀ n, (∀ i, i < n → ∃ y, Q i y) → ∃ xs : List α, xs.length = n ∧ ∀ (i : Nat) (y : α), xs[i]? = some y → Q i y
  | 0, _ => ⟨[], rfl, fun i y h => by simp at h⟩
  | n + 1, h => by
    obtain ⟨xs, hl, hx⟩ := list_upto n (fun i hi => h i (by omega))
    obtain ⟨y, hy⟩ := h n (by omega)
    refine ⟨xs ++ [y], by simp [hl], fun i z hz => ?_⟩
    by_cases e : i < xs.length
    · rw [List.getElem?_append_left e] at hz
      exact hx i z hz
    · rw [List.getElem?_append_right (by omega)] at hz
      have : i - xs.length = 0 := by
        have := (List.getElem?_eq_some_iff.1 hz).1
        simp at this
        omega
      rw [this] at hz
      obtain rfl : y = z := by simpa using hz
      obtain rfl : i = n := by omega
      exact hy
theorem opens_slice (n : Nat) {t e : TypeId} {d : Kd α} {wf : α → Prop} (ht : P.underlying t = some (.slice e)) (hc : P.cellsOf e = d.sz) (he : OpensAt enc P w base held n e d wf) :
    OpensAt enc P w base held (n + 1) t (Kd.slice e d) (fun xs => xs.length ≤ 9223372036854775807 ∧ ∀ x ∈ xs, wf x) := fun cs x h => by
  rcases DataW.trod_slice ht h with ⟨rfl, _⟩ | ⟨a, len, cap, elems, rest, m, hn, rfl, _, _, hl, hm, hlen, hel, _, _⟩
  · exact ⟨[], ⟨none, 0, rfl, Nat.le_refl _, ⟨rfl, by simp, fun h => absurd h (by simp)⟩⟩, by simp⟩
  · obtain rfl : n = m := by omega
    obtain ⟨xs, hxl, hx⟩ := list_upto (Q := fun i y => (∃ c : List Value, c.length = d.sz ∧ d.K w y c ∧ ∀ j u, c[j]? = some u → w.cell? (a.add (i * d.sz + j)) = some u) ∧ wf y) len (fun i hi => by
      have h1 := hel i hi
      rw [List.getElem?_eq_getElem (by omega)] at h1
      obtain ⟨c, hc1, hc2⟩ := Option.bind_eq_some_iff.1 h1
      obtain ⟨y, hy, hw⟩ := he c _ hc2
      obtain ⟨_, hcl, hcc⟩ := World.cells?_some hc1
      refine ⟨y, ⟨c, by rw [hcl, hc], hy, fun j u hu => ?_⟩, hw⟩
      have hj : j < P.cellsOf e := by rw [← hcl]; exact (List.getElem?_eq_some_iff.1 hu).1
      have h2 := hcc j hj
      rw [hu, hc] at h2
      rw [← h2, Addr.add_add])
    subst hxl
    unfold maxLen at hm
    refine ⟨xs, ⟨some a, cap, rfl, hl, ⟨rfl, by omega, fun _ => ⟨a, rfl, fun j p hj => (hx j p hj).1⟩⟩⟩, by omega, fun y hy => ?_⟩
    obtain ⟨i, hi⟩ := List.mem_iff_getElem?.1 hy
    exact (hx i y hi).2
/-- At any depth. -/
theorem OpensAt.any {t : TypeId} {d : Kd α} {wf : α → Prop} (h : ∀ n, OpensAt enc P w base held n t d wf) {v : Value} {y : DataW H} {p : List MemPlace} (hv : DataW.Trod enc P w base (fun _ => true) held t v y p) : ∃ a, d.K w a v.cells.toList ∧ wf a := by
  obtain ⟨fuel, hf⟩ := hv
  exact h fuel _ _ hf
theorem opens_slice_any {t e : TypeId} {d : Kd α} {wf : α → Prop} (ht : P.underlying t = some (.slice e)) (hc : P.cellsOf e = d.sz) (he : ∀ n, OpensAt enc P w base held n e d wf) : ∀ n, OpensAt enc P w base held n t (Kd.slice e d) (fun xs => xs.length ≤ 9223372036854775807 ∧ ∀ x ∈ xs, wf x)
  | 0 => fun cs x h => by simp [DataW.trod] at h
  | n + 1 => opens_slice n ht hc (he n)
end

end Go.Proofs.Ytopgelloghblaaa.P

namespace Go.Proofs.Ytopgelloghblaaa.P
open Go.RowKit Go.Proofs.YtopgelloghblaaaW.PrintWords Go.Proofs.YtopgelloghblaaaW.PrintLast Go.Proofs.YtopgelloghblaaaW.PrintMore
attribute [local go_sem] max2_int min2_int max_two min_two max_three min_three max_four min_four
set_option linter.unusedVariables false
set_option linter.unusedSimpArgs false

def wfS24 (x : S24) : Prop := ((Lit.int .i64 x.f0).wf = true) ∧ ((Lit.int .i64 x.f1).wf = true) ∧ (x.f2.length ≤ 9223372036854775807 ∧ ∀ y12_ ∈ x.f2, y12_.length ≤ 9223372036854775807 ∧ ∀ y7_ ∈ y12_, (Lit.int .i64 y7_).wf = true)
theorem list_of_24 {α : Type} {l : List α} (h : l.length = 3) : ∃ c0 c1 c2, l = [c0, c1, c2] := by
  match l, h with
  | [c0, c1, c2], _ => exact ⟨c0, c1, c2, rfl⟩
theorem opensS24 {H : Type} {enc : TypeId × Value → H} {w : World} {base : Nat} {held : Bool} : ∀ n, OpensAt enc Try.prog w base held n 24 k24 wfS24
  | 0 => fun cs x h => by simp [DataW.trod] at h
  | n + 1 => fun cs x h => by
    obtain ⟨xs, m, hm, _, hl, hlen, hf⟩ := DataW.trod_struct Try.underlying24 h
    obtain rfl : n = m := by omega
    rw [show Try.prog.cellsOf 24 = 3 from by kernel_rfl] at hl
    obtain ⟨c0, c1, c2, rfl⟩ := list_of_24 hl
    have h0 : DataW.trod enc Try.prog w base (fun _ => true) held (n) 2 [c0] = xs[0]? := by
        have q := hf 0 _ rfl
        simpa [show Try.prog.cellsOf 2 = 1 from by kernel_rfl] using q
    rw [List.getElem?_eq_getElem (by rw [hlen]; decide)] at h0
    obtain ⟨a0, e0, w0⟩ := (fun n => opens_int n Try.underlying2) (n) _ _ h0
    cases e0
    have h1 : DataW.trod enc Try.prog w base (fun _ => true) held (n) 2 [c1] = xs[1]? := by
        have q := hf 1 _ rfl
        simpa [show Try.prog.cellsOf 2 = 1 from by kernel_rfl] using q
    rw [List.getElem?_eq_getElem (by rw [hlen]; decide)] at h1
    obtain ⟨a1, e1, w1⟩ := (fun n => opens_int n Try.underlying2) (n) _ _ h1
    cases e1
    have h2 : DataW.trod enc Try.prog w base (fun _ => true) held (n) 22 [c2] = xs[2]? := by
        have q := hf 2 _ rfl
        simpa [show Try.prog.cellsOf 22 = 1 from by kernel_rfl] using q
    rw [List.getElem?_eq_getElem (by rw [hlen]; decide)] at h2
    obtain ⟨a2, ⟨A2, n2, e2, l2, g2⟩, w2⟩ := (opens_slice_any Try.underlying22 (by kernel_rfl) (opens_slice_any Try.underlying32 (by kernel_rfl) (fun n => opens_int n Try.underlying2))) (n) _ _ h2
    cases e2
    exact ⟨⟨a0, a1, a2⟩, k24_mk w ⟨a0, a1, a2⟩ l2 g2, w0, w1, w2⟩

end Go.Proofs.Ytopgelloghblaaa.P

namespace Go.Proofs.Ytopgelloghblaaa.P
open Go.RowKit Go.Proofs.YtopgelloghblaaaW.PrintWords Go.Proofs.YtopgelloghblaaaW.PrintLast Go.Proofs.YtopgelloghblaaaW.PrintMore
attribute [local go_sem] max2_int min2_int max_two min_two max_three min_three max_four min_four
set_option linter.unusedVariables false
set_option linter.unusedSimpArgs false

def laws_FnExactStackRows.Way0 (x0 : S24) (x1 : S24) : Prop := ∃ k : Nat, ∃ (s3 : Int), (laws_szMatrix.f k x0.f0 x0.f1 x0.f2 1048576 = some s3) ∧ (decide (s3 < 0) = true)
def laws_FnExactStackRows.Way1 (x0 : S24) (x1 : S24) : Prop := ∃ k : Nat, ∃ (s3 : Int) (s15 : Int), (laws_szMatrix.f k x0.f0 x0.f1 x0.f2 1048576 = some s3) ∧ (decide (s3 < 0) = false) ∧ (laws_szMatrix.f k x1.f0 x1.f1 x1.f2 s3 = some s15) ∧ (decide (s15 < 0) = true)
def laws_FnExactStackRows.Way2 (x0 : S24) (x1 : S24) : Prop := ∃ k : Nat, ∃ (s3 : Int) (s15 : Int) (r51 : Int) (r52 : Int) (r53 : List (List Int)) (r54 : Int) (m280 : Int) (ys281 : List (List Int)) (m308 : Int) (ys309 : List (List Int)) (m363 : Int) (ys364 : List (List Int)), (laws_szMatrix.f k x0.f0 x0.f1 x0.f2 1048576 = some s3) ∧ (decide (s3 < 0) = false) ∧ (laws_szMatrix.f k x1.f0 x1.f1 x1.f2 s3 = some s15) ∧ (decide (s15 < 0) = false) ∧ (laws_toMatrix.f k x0.f0 x0.f1 x0.f2 = some (x0.f0, x0.f1, x0.f2)) ∧ (laws_toMatrix.f k x1.f0 x1.f1 x1.f2 = some (x1.f0, x1.f1, x1.f2)) ∧ (spec_StackRows.f k x0.f0 x0.f1 x0.f2 x1.f0 x1.f1 x1.f2 = some (r51, r52, r53, r54)) ∧ (laws_toMatrix.f k x0.f0 x0.f1 x0.f2 = some (x0.f0, x0.f1, x0.f2)) ∧ (laws_toMatrix.f k x1.f0 x1.f1 x1.f2 = some (x1.f0, x1.f1, x1.f2)) ∧ (impl_StackRows.f k x0.f0 x0.f1 x0.f2 x1.f0 x1.f1 x1.f2 = some (r51, r52, r53, r54)) ∧ (laws_eqMatrix.f k r51 r52 r53 r51 r52 r53 = some true) ∧ (laws_toMatrix.f k x0.f0 x0.f1 x0.f2 = some (x0.f0, x0.f1, x0.f2)) ∧ (laws_eqMatrix.f k x0.f0 x0.f1 x0.f2 x0.f0 x0.f1 x0.f2 = some true) ∧ (laws_toMatrix.f k x1.f0 x1.f1 x1.f2 = some (x1.f0, x1.f1, x1.f2)) ∧ (laws_eqMatrix.f k x1.f0 x1.f1 x1.f2 x1.f0 x1.f1 x1.f2 = some true) ∧ (laws_markMatrix.f k x0.f0 x0.f1 x0.f2 1 = some (m280, ys281)) ∧ (laws_markMatrix.f k x1.f0 x1.f1 x1.f2 m280 = some (m308, ys309)) ∧ (decide (m308 < 0) = false) ∧ (laws_eqMatrix.f k r51 r52 r53 r51 r52 r53 = some true) ∧ (laws_markMatrix.f k r51 r52 r53 1 = some (m363, ys364)) ∧ (laws_heldMatrix.f k r51 r52 ys364 1 = some m363) ∧ (decide (m363 < 0) = false) ∧ (laws_toMatrix.f k x0.f0 x0.f1 x0.f2 = some (x0.f0, x0.f1, x0.f2)) ∧ (laws_toMatrix.f k x1.f0 x1.f1 x1.f2 = some (x1.f0, x1.f1, x1.f2)) ∧ (impl_StackRows.f k x0.f0 x0.f1 x0.f2 x1.f0 x1.f1 x1.f2 = some (r51, r52, r53, r54)) ∧ (laws_eqMatrix.f k r51 r52 r53 r51 r52 r53 = some true) ∧ (laws_heldMatrix.f k r51 r52 ys364 1 = some m363) ∧ (decide (m363 < 0) = false)
def laws_FnExactStackRows.Pure : Prop := ∀ (x0 : S24) (x1 : S24), wfS24 x0 → wfS24 x1 → laws_FnExactStackRows.Way0 x0 x1 ∨ laws_FnExactStackRows.Way1 x0 x1 ∨ laws_FnExactStackRows.Way2 x0 x1
theorem laws_FnExactStackRows.walk (P : laws_FnExactStackRows.Pure) (x0 : S24) (x1 : S24) (A0_2 : Option Addr) (c0_2 : Nat) (A1_2 : Option Addr) (c1_2 : Nat) (w : World) (hr0_2 : Kd.C (Kd.slice 2 (Kd.int .i64)) w A0_2 x0.f2.length x0.f2) (hc0_2 : x0.f2.length ≤ c0_2) (hr1_2 : Kd.C (Kd.slice 2 (Kd.int .i64)) w A1_2 x1.f2.length x1.f2) (hc1_2 : x1.f2.length ≤ c1_2) (wf0 : wfS24 x0) (wf1 : wfS24 x1) :
    Calls Try.prog 7 #[.agg #[.int .i64 x0.f0, .int .i64 x0.f1, .slice A0_2 x0.f2.length c0_2], .agg #[.int .i64 x1.f0, .int .i64 x1.f1, .slice A1_2 x1.f2.length c1_2]] w fun e w' => e = .returned (.bool true) ∧ Below w.heap.size w w' := by
  rcases P x0 x1 wf0 wf1 with h | h | h
  · obtain ⟨k, s3, A4, t14⟩ := h
    exact laws_FnExactStackRows.way0 k x0.f0 x0.f1 _ _ x0.f2 x1.f0 x1.f1 _ _ x1.f2 s3 w hr0_2 hc0_2 hr1_2 hc1_2 A4 t14
  · obtain ⟨k, s3, s15, A4, t14, A16, t26⟩ := h
    exact laws_FnExactStackRows.way1 k x0.f0 x0.f1 _ _ x0.f2 x1.f0 x1.f1 _ _ x1.f2 s3 s15 w hr0_2 hc0_2 hr1_2 hc1_2 A4 t14 A16 t26
  · obtain ⟨k, s3, s15, r51, r52, r53, r54, m280, ys281, m308, ys309, m363, ys364, A4, t14, A16, t26, A27, A39, A55, A83, A100, A121, A146, A172, A200, A226, A254, A282, A310, t336, A337, A365, A391, t417, A418, A446, A474, A534, A564, t594⟩ := h
    exact laws_FnExactStackRows.way2 k x0.f0 x0.f1 _ _ x0.f2 x1.f0 x1.f1 _ _ x1.f2 s3 s15 r51 r52 r53 r54 m280 ys281 m308 ys309 m363 ys364 w hr0_2 hc0_2 hr1_2 hc1_2 A4 t14 A16 t26 A27 A39 A55 A83 A100 A121 A146 A172 A200 A226 A254 A282 A310 t336 A337 A365 A391 t417 A418 A446 A474 A534 A564 t594

end Go.Proofs.Ytopgelloghblaaa.P

namespace Go.Proofs.Ytopgelloghblaaa.P
open Go.RowKit Go.Proofs.YtopgelloghblaaaW.PrintWords Go.Proofs.YtopgelloghblaaaW.PrintLast Go.Proofs.YtopgelloghblaaaW.PrintMore
attribute [local go_sem] max2_int min2_int max_two min_two max_three min_three max_four min_four
set_option linter.unusedVariables false
set_option linter.unusedSimpArgs false

/-! ### spec_l03Power: function 119 -/
end Go.Proofs.Ytopgelloghblaaa.P

namespace Go.Proofs.Ytopgelloghblaaa.P
open Go.RowKit Go.Proofs.YtopgelloghblaaaW.PrintWords Go.Proofs.YtopgelloghblaaaW.PrintLast Go.Proofs.YtopgelloghblaaaW.PrintMore
attribute [local go_sem] max2_int min2_int max_two min_two max_three min_three max_four min_four
set_option linter.unusedVariables false
set_option linter.unusedSimpArgs false

/-- p is a prime up to 31. -/
def primeB (p : Int) : Bool := p == 2 || p == 3 || p == 5 || p == 7 || p == 11 || p == 13 || p == 17 || p == 19 || p == 23 || p == 29 || p == 31
theorem impl_within_eq (n lo hi : Int) : impl_within.f n lo hi = some (decide (lo ≤ n ∧ n ≤ hi)) := by
  unfold impl_within.f
  by_cases h : n ≥ lo
  · rw [if_pos h]; congr 1; by_cases h2 : n ≤ hi <;> simp [h, h2]
  · rw [if_neg h]; congr 1; simp; omega
theorem spec_l00In_eq (n lo hi : Int) : spec_l00In.f n lo hi = some (decide (lo ≤ n ∧ n ≤ hi)) := by
  unfold spec_l00In.f
  by_cases h : n ≥ lo
  · rw [if_pos h]; congr 1; by_cases h2 : n ≤ hi <;> simp [h, h2]
  · rw [if_neg h]; congr 1; simp; omega
theorem primeB_range {p : Int} (h : primeB p = true) : 2 ≤ p ∧ p ≤ 31 := by
  simp only [primeB, Bool.or_eq_true, beq_iff_eq] at h
  omega
theorem fin30 {P : Int → Prop} (h : ∀ i : Fin 30, P ((i.val : Int) + 2)) (p : Int) (h1 : 2 ≤ p) (h2 : p ≤ 31) : P p := by
  have := h ⟨(p - 2).toNat, by omega⟩
  rwa [show ((((p - 2).toNat : Nat) : Int) + 2) = p by omega] at this
theorem spec_IsPrime_ev (p : Int) : Ev (fun k => spec_IsPrime.f k p) (primeB p) := by
  by_cases h : 2 ≤ p ∧ p ≤ 31
  · refine Ev.of (spec_IsPrime.mono p) (k := 40) ?_
    exact fin30 (P := fun p => spec_IsPrime.f 40 p = some (primeB p)) (by decide +kernel) p h.1 h.2
  · refine Ev.congr (f := fun _ => some false) (fun k => ?_) ?_
    · unfold spec_IsPrime.f
      rw [spec_l00In_eq, decide_eq_false h]
      rfl
    · rw [show primeB p = false from by
        cases e : primeB p with
        | false => rfl
        | true => exact absurd (primeB_range e) h]
      exact Ev.now _
theorem impl_IsPrime_ev (p : Int) : Ev (fun k => impl_IsPrime.f k p) (primeB p) := by
  by_cases h : 2 ≤ p ∧ p ≤ 31
  · refine Ev.of (impl_IsPrime.mono p) (k := 40) ?_
    exact fin30 (P := fun p => impl_IsPrime.f 40 p = some (primeB p)) (by decide +kernel) p h.1 h.2
  · refine Ev.of (impl_IsPrime.mono p) (k := 2) ?_
    have hp : primeB p = false := by
      cases e : primeB p with
      | false => rfl
      | true => exact absurd (primeB_range e) h
    rw [hp]
    have hw : wrap64 (2 * 2) = 4 := by decide +kernel
    unfold impl_IsPrime.f
    simp only [impl_IsPrime.l0, hw]
    by_cases h4 : (4 : Int) ≤ p
    · rw [if_pos h4]
      have h31 : ¬ p ≤ 31 := by omega
      simp only [impl_IsPrime.j1, decide_eq_false h31]
      rw [if_neg (by decide), impl_within_eq, decide_eq_false h]
      rfl
    · rw [if_neg h4]
      simp only [impl_IsPrime.j1]
      rw [if_neg (by decide), impl_within_eq, decide_eq_false h]
      rfl

end Go.Proofs.Ytopgelloghblaaa.P

namespace Go.Proofs.Ytopgelloghblaaa.P
open Go.RowKit Go.Proofs.YtopgelloghblaaaW.PrintWords Go.Proofs.YtopgelloghblaaaW.PrintLast Go.Proofs.YtopgelloghblaaaW.PrintMore
attribute [local go_sem] max2_int min2_int max_two min_two max_three min_three max_four min_four
set_option linter.unusedVariables false
set_option linter.unusedSimpArgs false

theorem wr {x : Int} (h1 : -9223372036854775808 ≤ x) (h2 : x ≤ 9223372036854775807) : wrap64 x = x := by
  unfold wrap64; omega
theorem rd_nat (xs : List Int) (i : Nat) (h : i < xs.length) : rd xs (i : Int) = xs[i] := by
  simp [rd, h]
/-- All elements of l lie in 0 .. p - 1. -/
def elemsB (p : Int) (l : List Int) : Bool := l.all fun a => decide (0 ≤ a ∧ a ≤ p - 1)
theorem idxI_ev (p : Int → Option Bool) (q : Int → Bool) (xs : List Int) (hlen : xs.length ≤ 4611686018427387904) (hp : ∀ x, p x = some (q x)) :
    ∀ d i : Nat, i + d = xs.length → ∃ r : Int, Ev (fun k => idxI.l0 k p xs (i : Int)) r ∧ decide (0 ≤ r) = (xs.drop i).any q := by
  intro d
  induction d with
  | zero =>
    intro i hi
    refine ⟨-1, Ev.step (f := fun _ => some (-1)) (fun k => ?_) (Ev.now _), ?_⟩
    · simp only [idxI.l0]
      rw [if_neg (by omega)]
    · rw [List.drop_eq_nil_of_le (by omega)]; rfl
  | succ d ih =>
    intro i hi
    have hlt : i < xs.length := by omega
    obtain ⟨r, hr, hd⟩ := ih (i + 1) (by omega)
    rw [List.drop_eq_getElem_cons hlt, List.any_cons]
    cases hq : q xs[i] with
    | true =>
      refine ⟨i, Ev.step (f := fun _ => some (i : Int)) (fun k => ?_) (Ev.now _), ?_⟩
      · simp only [idxI.l0]
        rw [if_pos (by omega), if_pos (by omega), hp, rd_nat xs i hlt, hq]
        rfl
      · rw [Bool.true_or]; exact decide_eq_true (by omega)
    | false =>
      refine ⟨r, Ev.step (f := fun k => idxI.l0 k p xs ((i + 1 : Nat) : Int)) (fun k => ?_) hr, ?_⟩
      · simp only [idxI.l0]
        rw [if_pos (by omega), if_pos (by omega), hp, rd_nat xs i hlt, hq, wr (by omega) (by omega)]
        rfl
      · rw [Bool.false_or]; exact hd
theorem hasI_ev (p : Int → Option Bool) (q : Int → Bool) (xs : List Int) (hlen : xs.length ≤ 4611686018427387904) (hp : ∀ x, p x = some (q x)) :
    Ev (fun k => hasI.f k p xs) (xs.any q) := by
  obtain ⟨r, hr, hd⟩ := idxI_ev p q xs hlen hp xs.length 0 (by omega)
  rw [List.drop_zero] at hd
  rw [← hd]
  exact Ev.bind hr (Ev.now _)
theorem not_any_elems (p : Int) (l : List Int) : (!(l.any fun a => !decide (0 ≤ a ∧ a ≤ p - 1))) = elemsB p l := by
  unfold elemsB
  induction l with
  | nil => rfl
  | cons a l ih => rw [List.any_cons, List.all_cons, ← ih, Bool.not_or, Bool.not_not]
theorem impl_areElements_ev (p : Int) (l : List Int) (hlen : l.length ≤ 4611686018427387904) : Ev (fun k => impl_areElements.f k p l) (primeB p && elemsB p l) := by
  unfold impl_areElements.f
  refine Ev.bind (impl_IsPrime_ev p) ?_
  cases hp : primeB p with
  | false => exact Ev.now _
  | true =>
    have hr := primeB_range hp
    rw [Bool.true_and, ← not_any_elems]
    simp only [if_true]
    refine Ev.bind (hasI_ev (areElements_p p) (fun a => !decide (0 ≤ a ∧ a ≤ p - 1)) l hlen (fun x => ?_)) (Ev.now _)
    unfold areElements_p
    rw [impl_within_eq, wr (by omega) (by omega)]
    rfl
end Go.Proofs.Ytopgelloghblaaa.P

namespace Go.Proofs.Ytopgelloghblaaa.P
open Go.RowKit Go.Proofs.YtopgelloghblaaaW.PrintWords Go.Proofs.YtopgelloghblaaaW.PrintLast Go.Proofs.YtopgelloghblaaaW.PrintMore
attribute [local go_sem] max2_int min2_int max_two min_two max_three min_three max_four min_four
set_option linter.unusedVariables false
set_option linter.unusedSimpArgs false

/-! ### impl_isGroup: function 101 -/
end Go.Proofs.Ytopgelloghblaaa.P

namespace Go.Proofs.Ytopgelloghblaaa.P
open Go.RowKit Go.Proofs.YtopgelloghblaaaW.PrintWords Go.Proofs.YtopgelloghblaaaW.PrintLast Go.Proofs.YtopgelloghblaaaW.PrintMore
attribute [local go_sem] max2_int min2_int max_two min_two max_three min_three max_four min_four
set_option linter.unusedVariables false
set_option linter.unusedSimpArgs false

/-! ### spec_l00Rises: function 110 -/
end Go.Proofs.Ytopgelloghblaaa.P

namespace Go.Proofs.Ytopgelloghblaaa.P
open Go.RowKit Go.Proofs.YtopgelloghblaaaW.PrintWords Go.Proofs.YtopgelloghblaaaW.PrintLast Go.Proofs.YtopgelloghblaaaW.PrintMore
attribute [local go_sem] max2_int min2_int max_two min_two max_three min_three max_four min_four
set_option linter.unusedVariables false
set_option linter.unusedSimpArgs false

/-! ### spec_l01Group: function 99 -/
end Go.Proofs.Ytopgelloghblaaa.P

namespace Go.Proofs.Ytopgelloghblaaa.P
open Go.RowKit Go.Proofs.YtopgelloghblaaaW.PrintWords Go.Proofs.YtopgelloghblaaaW.PrintLast Go.Proofs.YtopgelloghblaaaW.PrintMore
attribute [local go_sem] max2_int min2_int max_two min_two max_three min_three max_four min_four
set_option linter.unusedVariables false
set_option linter.unusedSimpArgs false

theorem toInt64S_loop (l : List Int) (hl : l.length ≤ 1048576) : ∀ (d i : Nat), i + d = l.length → Ev (fun k => laws_toInt64S.l0 k l (l.take i ++ List.replicate d 0) (i : Int)) l := by
  intro d
  induction d with
  | zero =>
    intro i hi
    refine Ev.step (f := fun _ => some l) (fun k => ?_) (Ev.now _)
    simp only [laws_toInt64S.l0]
    rw [if_neg (by omega)]
    simp [List.take_of_length_le (show l.length ≤ i by omega)]
  | succ d ih =>
    intro i hi
    have hlt : i < l.length := by omega
    refine Ev.step (fun k => ?_) (ih (i + 1) (by omega))
    simp only [laws_toInt64S.l0]
    rw [if_pos (by omega), if_pos (by omega), if_pos (by simp; omega), wr (by omega) (by omega), rd_nat l i hlt]
    have e : (l.take i ++ List.replicate (d + 1) 0).set ((i : Int)).toNat l[i] = l.take (i + 1) ++ List.replicate d 0 := by
      have e0 : (l.take i).length = i := by rw [List.length_take]; omega
      rw [Int.toNat_natCast, List.set_append_right _ _ (by omega), e0, Nat.sub_self, List.replicate_succ, List.set_cons_zero, List.take_succ_eq_append_getElem hlt, List.append_assoc]
      rfl
    rw [e]
    rfl
theorem toInt64S_ev (l : List Int) (hl : l.length ≤ 1048576) : Ev (fun k => laws_toInt64S.f k l) l := by
  unfold laws_toInt64S.f
  simp only [if_pos (show (0 : Int) ≤ (l.length : Int) by omega), if_pos (show ((l.length : Int)).toNat ≤ 35184372088832 by omega)]
  have := toInt64S_loop l hl l.length 0 (by omega)
  rw [List.take_zero, List.nil_append] at this
  rw [Int.toNat_natCast]
  exact this
theorem eqInt64S_loop (a b : List Int) (hl : a.length ≤ 1048576) (hab : a.length = b.length) : ∀ (d i : Nat), i + d = a.length → Ev (fun k => laws_eqInt64S.l0 k a b (i : Int)) (decide (a.drop i = b.drop i)) := by
  intro d
  induction d with
  | zero =>
    intro i hi
    refine Ev.step (f := fun _ => some true) (fun k => ?_) ?_
    · simp only [laws_eqInt64S.l0]
      rw [if_neg (by omega)]
    · rw [List.drop_eq_nil_of_le (by omega), List.drop_eq_nil_of_le (by omega), decide_eq_true rfl]
      exact Ev.now _
  | succ d ih =>
    intro i hi
    have h1 : i < a.length := by omega
    have h2 : i < b.length := by omega
    have ed : (a.drop i = b.drop i) ↔ (a[i] = b[i] ∧ a.drop (i + 1) = b.drop (i + 1)) := by
      rw [List.drop_eq_getElem_cons h1, List.drop_eq_getElem_cons h2, List.cons.injEq]
    by_cases e : a[i] = b[i]
    · rw [show decide (a.drop i = b.drop i) = decide (a.drop (i + 1) = b.drop (i + 1)) from by simp only [ed, e, true_and]]
      refine Ev.step (fun k => ?_) (ih (i + 1) (by omega))
      simp only [laws_eqInt64S.l0]
      rw [if_pos (by omega), if_pos (by omega), if_pos (by omega), rd_nat a i h1, rd_nat b i h2, if_pos e, wr (by omega) (by omega)]
      rfl
    · refine Ev.step (f := fun _ => some false) (fun k => ?_) ?_
      · simp only [laws_eqInt64S.l0]
        rw [if_pos (by omega), if_pos (by omega), if_pos (by omega), rd_nat a i h1, rd_nat b i h2, if_neg e]
      · rw [decide_eq_false (by rw [ed]; simp [e])]
        exact Ev.now _
theorem eqInt64S_ev (a b : List Int) (hl : a.length ≤ 1048576) : Ev (fun k => laws_eqInt64S.f k a b) (decide (a = b)) := by
  unfold laws_eqInt64S.f
  by_cases h : a.length = b.length
  · simp only [if_pos (show (a.length : Int) = (b.length : Int) by omega)]
    have := eqInt64S_loop a b hl h a.length 0 (by omega)
    rw [List.drop_zero, List.drop_zero] at this
    exact this
  · simp only [if_neg (show ¬ (a.length : Int) = (b.length : Int) by omega)]
    rw [decide_eq_false (by intro e; exact h (by rw [e]))]
    exact Ev.now _
def before (l : List Int) (i : Nat) : Option Int := if i = 0 then none else l[i - 1]?
end Go.Proofs.Ytopgelloghblaaa.P

namespace Go.Proofs.Ytopgelloghblaaa.P
open Go.RowKit Go.Proofs.YtopgelloghblaaaW.PrintWords Go.Proofs.YtopgelloghblaaaW.PrintLast Go.Proofs.YtopgelloghblaaaW.PrintMore
attribute [local go_sem] max2_int min2_int max_two min_two max_three min_three max_four min_four
set_option linter.unusedVariables false
set_option linter.unusedSimpArgs false

/-- A loop that goes on while q says yes, and ends with stop where it says no. -/
theorem scan_ev {ρ : Type} {l : Nat → Int → Option ρ} {n : Nat} {q : Nat → Bool} {fin stop : ρ}
    (hgo : ∀ i : Nat, i < n → q i = true → ∀ r, Ev (fun k => l k ((i + 1 : Nat) : Int)) r → Ev (fun k => l k (i : Int)) r)
    (hstop : ∀ i : Nat, i < n → q i = false → Ev (fun k => l k (i : Int)) stop)
    (hend : Ev (fun k => l k (n : Int)) fin) : Ev (fun k => l k 0) (if (List.range n).all q then fin else stop) := by
  have key : ∀ d i : Nat, i + d = n → Ev (fun k => l k (i : Int)) (if ((List.range n).drop i).all q then fin else stop) := by
    intro d
    induction d with
    | zero =>
      intro i hi
      obtain rfl : i = n := by omega
      rw [List.drop_eq_nil_of_le (by simp)]
      exact hend
    | succ d ih =>
      intro i hi
      rw [List.drop_eq_getElem_cons (by simp; omega), List.getElem_range, List.all_cons]
      cases hq : q i with
      | false => exact hstop i (by omega) hq
      | true => rw [Bool.true_and]; exact hgo i (by omega) hq _ (ih (i + 1) (by omega))
  have := key n 0 (by omega)
  rw [List.drop_zero] at this
  exact this
theorem range_all {α : Type} (xs : List α) (p : α → Bool) (q : Nat → Bool) (h : ∀ (i : Nat) (hi : i < xs.length), q i = p xs[i]) : (List.range xs.length).all q = xs.all p := by
  rw [Bool.eq_iff_iff, List.all_eq_true, List.all_eq_true]
  constructor
  · intro hq x hx
    obtain ⟨i, hi, rfl⟩ := List.getElem_of_mem hx
    rw [← h i hi]
    exact hq i (by simpa using hi)
  · intro hp i hi
    have hi' : i < xs.length := by simpa using hi
    rw [h i hi']
    exact hp _ (List.getElem_mem hi')
theorem rdL_nat (xs : List (List Int)) (i : Nat) (h : i < xs.length) : rd_L1 xs (i : Int) = xs[i] := by
  simp [rd_L1, h]
/-- How many values a list of lists holds, the lists themselves counted. -/
def bulk (rows : List (List Int)) : Nat := rows.length + (rows.map List.length).sum
theorem sum_take_le (l : List Nat) (i : Nat) : (l.take i).sum ≤ l.sum := by
  conv => rhs; rw [← List.take_append_drop i l, List.sum_append]
  omega
theorem sum_take_succ (l : List Nat) (i : Nat) (h : i < l.length) : (l.take (i + 1)).sum = (l.take i).sum + l[i] := by
  rw [List.take_succ_eq_append_getElem h, List.sum_append]; simp
theorem sum_mem_le (l : List Nat) (x : Nat) (h : x ∈ l) : x ≤ l.sum := by
  obtain ⟨i, hi, rfl⟩ := List.getElem_of_mem h
  have := sum_take_succ l i hi
  have := sum_take_le l (i + 1)
  omega
theorem szInt64S_eq (l : List Int) (a : Int) (ha : 0 ≤ a ∧ a ≤ 1048576) (hl : l.length ≤ 9223372036854775807) : laws_szInt64S.f l a = some (if (l.length : Int) ≤ a then a - l.length else -1) := by
  unfold laws_szInt64S.f
  rw [wr (by omega) (by omega)]
  by_cases h : (l.length : Int) ≤ a
  · rw [if_neg (by omega), if_pos h]
  · rw [if_pos (by omega), if_neg h]
theorem szInt64SS_ev (rows : List (List Int)) (a : Int) (ha : 0 ≤ a ∧ a ≤ 1048576) (hl : rows.length ≤ 9223372036854775807) (hr : ∀ r ∈ rows, r.length ≤ 9223372036854775807) :
    Ev (fun k => laws_szInt64SS.f k rows a) (if (bulk rows : Int) ≤ a then a - bulk rows else -1) := by
  unfold laws_szInt64SS.f
  rw [wr (by omega) (by omega)]
  by_cases h0 : a - (rows.length : Int) < 0
  · simp only [if_pos h0]
    rw [if_neg (by unfold bulk; omega)]
    exact Ev.now _
  · simp only [if_neg h0]
    have key : ∀ d i : Nat, i + d = rows.length → ∀ b : Int, 0 ≤ b → b = a - rows.length - ((rows.map List.length).take i).sum → Ev (fun k => laws_szInt64SS.l0 k rows b (i : Int)) (if (bulk rows : Int) ≤ a then a - bulk rows else -1) := by
      intro d
      induction d with
      | zero =>
        intro i hi b hb hbe
        rw [List.take_of_length_le (by simp; omega)] at hbe
        rw [if_pos (by unfold bulk; omega), show a - ((bulk rows : Nat) : Int) = b from by unfold bulk; omega]
        refine Ev.step (f := fun _ => some b) (fun k => ?_) (Ev.now _)
        simp only [laws_szInt64SS.l0]
        rw [if_neg (by omega)]
      | succ d ih =>
        intro i hi b hb hbe
        have hlt : i < rows.length := by omega
        have hs := sum_take_succ (rows.map List.length) i (by simpa using hlt)
        rw [List.getElem_map] at hs
        have hs2 := sum_take_le (rows.map List.length) (i + 1)
        have hri := hr _ (List.getElem_mem hlt)
        by_cases hc : ((rows[i]).length : Int) ≤ b
        · refine Ev.step (fun k => ?_) (ih (i + 1) (by omega) (b - (rows[i]).length) (by omega) (by omega))
          simp only [laws_szInt64SS.l0]
          rw [if_pos (by omega), if_pos (by omega), rdL_nat rows i hlt, szInt64S_eq _ _ (by omega) hri, if_pos hc, wr (x := (i : Int) + 1) (by omega) (by omega)]
          simp only [Option.bind_some]
          rw [if_neg (by omega)]
          rfl
        · refine Ev.step (f := fun _ => some (-1)) (fun k => ?_) ?_
          · simp only [laws_szInt64SS.l0]
            rw [if_pos (by omega), if_pos (by omega), rdL_nat rows i hlt, szInt64S_eq _ _ (by omega) hri, if_neg hc]
            rfl
          · rw [if_neg (by unfold bulk; omega)]
            exact Ev.now _
    exact key rows.length 0 (by omega) _ (by omega) (by simp)
theorem bulk_len {rows : List (List Int)} {n : Nat} (h : bulk rows ≤ n) : rows.length ≤ n ∧ ∀ r ∈ rows, r.length ≤ n := by
  unfold bulk at h
  refine ⟨by omega, fun r hr => ?_⟩
  have := sum_mem_le (rows.map List.length) r.length (List.mem_map_of_mem hr)
  omega
theorem toInt64SS_ev (l : List (List Int)) (hl : l.length ≤ 1048576) (hr : ∀ r ∈ l, r.length ≤ 1048576) : Ev (fun k => laws_toInt64SS.f k l) l := by
  unfold laws_toInt64SS.f
  simp only [if_pos (show (0 : Int) ≤ (l.length : Int) by omega), if_pos (show ((l.length : Int)).toNat ≤ 11728124029610 by omega)]
  have go : ∀ (d i : Nat), i + d = l.length → Ev (fun k => laws_toInt64SS.l0 k l (l.take i ++ List.replicate d []) (i : Int)) l := by
    intro d
    induction d with
    | zero =>
      intro i hi
      refine Ev.step (f := fun _ => some l) (fun k => ?_) (Ev.now _)
      simp only [laws_toInt64SS.l0]
      rw [if_neg (by omega)]
      simp [List.take_of_length_le (show l.length ≤ i by omega)]
    | succ d ih =>
      intro i hi
      have hlt : i < l.length := by omega
      refine Ev.step (f := fun k => (laws_toInt64S.f k l[i]).bind fun t => laws_toInt64SS.l0 k l ((l.take i ++ List.replicate (d + 1) []).set i t) ((i + 1 : Nat) : Int)) (fun k => ?_) ?_
      · simp only [laws_toInt64SS.l0]
        rw [if_pos (by omega), if_pos (by omega), rdL_nat l i hlt, wr (by omega) (by omega)]
        simp only [if_pos (show (i : Int) < ((l.take i ++ List.replicate (d + 1) ([] : List Int)).length : Int) by simp; omega), Int.toNat_natCast]
        rfl
      · refine Ev.bind (toInt64S_ev _ (hr _ (List.getElem_mem hlt))) ?_
        have e0 : (l.take i).length = i := by rw [List.length_take]; omega
        have e : (l.take i ++ List.replicate (d + 1) []).set i l[i] = l.take (i + 1) ++ List.replicate d [] := by
          rw [List.set_append_right _ _ (by omega), e0, Nat.sub_self, List.replicate_succ, List.set_cons_zero, List.take_succ_eq_append_getElem hlt, List.append_assoc]
          rfl
        rw [e]
        exact ih (i + 1) (by omega)
  have := go l.length 0 (by omega)
  rw [List.take_zero, List.nil_append] at this
  rw [Int.toNat_natCast]
  exact this
theorem eqInt64SS_ev (a b : List (List Int)) (hl : a.length ≤ 1048576) (hr : ∀ r ∈ a, r.length ≤ 1048576) : Ev (fun k => laws_eqInt64SS.f k a b) (decide (a = b)) := by
  unfold laws_eqInt64SS.f
  by_cases h : a.length = b.length
  · simp only [if_pos (show (a.length : Int) = (b.length : Int) by omega)]
    have key : ∀ (d i : Nat), i + d = a.length → Ev (fun k => laws_eqInt64SS.l0 k a b (i : Int)) (decide (a.drop i = b.drop i)) := by
      intro d
      induction d with
      | zero =>
        intro i hi
        refine Ev.step (f := fun _ => some true) (fun k => ?_) ?_
        · simp only [laws_eqInt64SS.l0]
          rw [if_neg (by omega)]
        · rw [List.drop_eq_nil_of_le (by omega), List.drop_eq_nil_of_le (by omega), decide_eq_true rfl]
          exact Ev.now _
      | succ d ih =>
        intro i hi
        have h1 : i < a.length := by omega
        have h2 : i < b.length := by omega
        have ed : (a.drop i = b.drop i) ↔ (a[i] = b[i] ∧ a.drop (i + 1) = b.drop (i + 1)) := by
          rw [List.drop_eq_getElem_cons h1, List.drop_eq_getElem_cons h2, List.cons.injEq]
        refine Ev.step (f := fun k => (laws_eqInt64S.f k a[i] b[i]).bind fun t => if t = true then laws_eqInt64SS.l0 k a b ((i + 1 : Nat) : Int) else some false) (fun k => ?_) ?_
        · simp only [laws_eqInt64SS.l0]
          rw [if_pos (by omega), if_pos (by omega), if_pos (by omega), rdL_nat a i h1, rdL_nat b i h2, wr (by omega) (by omega)]
          rfl
        · refine Ev.bind (eqInt64S_ev _ _ (hr _ (List.getElem_mem h1))) ?_
          by_cases e : a[i] = b[i]
          · rw [decide_eq_true e, show decide (a.drop i = b.drop i) = decide (a.drop (i + 1) = b.drop (i + 1)) from by simp only [ed, e, true_and]]
            exact ih (i + 1) (by omega)
          · rw [decide_eq_false e, decide_eq_false (by rw [ed]; simp [e])]
            exact Ev.now _
    have := key a.length 0 (by omega)
    rw [List.drop_zero, List.drop_zero] at this
    exact this
  · simp only [if_neg (show ¬ (a.length : Int) = (b.length : Int) by omega)]
    rw [decide_eq_false (by intro e; exact h (by rw [e]))]
    exact Ev.now _
theorem eqInt64SS_same (a : List (List Int)) (hl : a.length ≤ 1048576) (hr : ∀ r ∈ a, r.length ≤ 1048576) : Ev (fun k => laws_eqInt64SS.f k a a) true := by
  have := eqInt64SS_ev a a hl hr
  rwa [decide_eq_true rfl] at this
theorem szMatrix_ev (p c : Int) (rows : List (List Int)) (a : Int) (ha : 0 ≤ a ∧ a ≤ 1048576) (hl : rows.length ≤ 9223372036854775807) (hr : ∀ r ∈ rows, r.length ≤ 9223372036854775807) :
    Ev (fun k => laws_szMatrix.f k p c rows a) (if (bulk rows : Int) ≤ a then a - bulk rows else -1) := by
  unfold laws_szMatrix.f
  refine Ev.bind (szInt64SS_ev rows a ha hl hr) ?_
  by_cases h : (bulk rows : Int) ≤ a
  · simp only [if_pos h, if_neg (show ¬ (a - (bulk rows : Int) < 0) by omega)]
    exact Ev.now _
  · simp only [if_neg h]
    exact Ev.now _
theorem toMatrix_ev (p c : Int) (l : List (List Int)) (hl : l.length ≤ 1048576) (hr : ∀ r ∈ l, r.length ≤ 1048576) : Ev (fun k => laws_toMatrix.f k p c l) (p, c, l) := by
  unfold laws_toMatrix.f
  exact Ev.bind (toInt64SS_ev l hl hr) (Ev.now _)
theorem eqMatrix_same (p c : Int) (l : List (List Int)) (hl : l.length ≤ 1048576) (hr : ∀ r ∈ l, r.length ≤ 1048576) : Ev (fun k => laws_eqMatrix.f k p c l p c l) true := by
  unfold laws_eqMatrix.f
  simp only [if_true]
  refine Ev.bind (eqInt64SS_same l hl hr) ?_
  simp only [if_true]
  exact Ev.now _

end Go.Proofs.Ytopgelloghblaaa.P

namespace Go.Proofs.Ytopgelloghblaaa.P
open Go.RowKit Go.Proofs.YtopgelloghblaaaW.PrintWords Go.Proofs.YtopgelloghblaaaW.PrintLast Go.Proofs.YtopgelloghblaaaW.PrintMore
attribute [local go_sem] max2_int min2_int max_two min_two max_three min_three max_four min_four
set_option linter.unusedVariables false
set_option linter.unusedSimpArgs false

/-! ### spec_l00Same: function 63 -/
end Go.Proofs.Ytopgelloghblaaa.P

namespace Go.Proofs.Ytopgelloghblaaa.P
open Go.RowKit Go.Proofs.YtopgelloghblaaaW.PrintWords Go.Proofs.YtopgelloghblaaaW.PrintLast Go.Proofs.YtopgelloghblaaaW.PrintMore
attribute [local go_sem] max2_int min2_int max_two min_two max_three min_three max_four min_four
set_option linter.unusedVariables false
set_option linter.unusedSimpArgs false

/-! ### spec_SameMatrix: function 20 -/
end Go.Proofs.Ytopgelloghblaaa.P

namespace Go.Proofs.Ytopgelloghblaaa.P
open Go.RowKit Go.Proofs.YtopgelloghblaaaW.PrintWords Go.Proofs.YtopgelloghblaaaW.PrintLast Go.Proofs.YtopgelloghblaaaW.PrintMore
attribute [local go_sem] max2_int min2_int max_two min_two max_three min_three max_four min_four
set_option linter.unusedVariables false
set_option linter.unusedSimpArgs false

/-! ### slices_Equal_int64_int64: function 65 -/
end Go.Proofs.Ytopgelloghblaaa.P

namespace Go.Proofs.Ytopgelloghblaaa.P
open Go.RowKit Go.Proofs.YtopgelloghblaaaW.PrintWords Go.Proofs.YtopgelloghblaaaW.PrintLast Go.Proofs.YtopgelloghblaaaW.PrintMore
attribute [local go_sem] max2_int min2_int max_two min_two max_three min_three max_four min_four
set_option linter.unusedVariables false
set_option linter.unusedSimpArgs false

/-! ### slices_EqualFunc_int64_int64_int64_int64: function 64 (by hand) -/
end Go.Proofs.Ytopgelloghblaaa.P

namespace Go.Proofs.Ytopgelloghblaaa.P
open Go.RowKit Go.Proofs.YtopgelloghblaaaW.PrintWords Go.Proofs.YtopgelloghblaaaW.PrintLast Go.Proofs.YtopgelloghblaaaW.PrintMore
attribute [local go_sem] max2_int min2_int max_two min_two max_three min_three max_four min_four
set_option linter.unusedVariables false
set_option linter.unusedSimpArgs false

/-! ### impl_SameMatrix: function 21 (by hand) -/
end Go.Proofs.Ytopgelloghblaaa.P

namespace Go.Proofs.Ytopgelloghblaaa.P
open Go.RowKit Go.Proofs.YtopgelloghblaaaW.PrintWords Go.Proofs.YtopgelloghblaaaW.PrintLast Go.Proofs.YtopgelloghblaaaW.PrintMore
attribute [local go_sem] max2_int min2_int max_two min_two max_three min_three max_four min_four
set_option linter.unusedVariables false
set_option linter.unusedSimpArgs false

/-- What holds from some number of rounds on. -/
def From (P : Nat → Prop) : Prop := ∃ K, ∀ k, K ≤ k → P k
theorem From.and {P Q : Nat → Prop} (hp : From P) (hq : From Q) : From fun k => P k ∧ Q k := by
  obtain ⟨K, hK⟩ := hp
  obtain ⟨L, hL⟩ := hq
  exact ⟨max K L, fun k h => ⟨hK k (by omega), hL k (by omega)⟩⟩
theorem From.now {P : Nat → Prop} (h : From P) : ∃ k, P k := by
  obtain ⟨K, hK⟩ := h
  exact ⟨K, hK K (Nat.le_refl _)⟩
end Go.Proofs.Ytopgelloghblaaa.P

namespace Go.Proofs.Ytopgelloghblaaa.P
open Go.RowKit Go.Proofs.YtopgelloghblaaaW.PrintWords Go.Proofs.YtopgelloghblaaaW.PrintLast Go.Proofs.YtopgelloghblaaaW.PrintMore
attribute [local go_sem] max2_int min2_int max_two min_two max_three min_three max_four min_four
set_option linter.unusedVariables false
set_option linter.unusedSimpArgs false

/-! ### laws_markScheme: function 40 (by hand) -/
end Go.Proofs.Ytopgelloghblaaa.P

namespace Go.Proofs.Ytopgelloghblaaa.P
open Go.RowKit Go.Proofs.YtopgelloghblaaaW.PrintWords Go.Proofs.YtopgelloghblaaaW.PrintLast Go.Proofs.YtopgelloghblaaaW.PrintMore
attribute [local go_sem] max2_int min2_int max_two min_two max_three min_three max_four min_four
set_option linter.unusedVariables false
set_option linter.unusedSimpArgs false

/-- The numbers from a on, n of them: what a mark leaves. -/
def upFrom (a : Int) (n : Nat) : List Int := (List.range n).map fun i : Nat => a + (i : Int)
theorem upFrom_length (a : Int) (n : Nat) : (upFrom a n).length = n := by simp [upFrom]
theorem upFrom_succ (a : Int) (n : Nat) : upFrom a (n + 1) = upFrom a n ++ [a + (n : Int)] := by simp [upFrom, List.range_succ]
/-- A loop that writes one place after another. -/
theorem markInt64S_ev (l : List Int) (a : Int) (ha : 0 ≤ a ∧ a ≤ 2147483648) (hl : l.length ≤ 4611686018427387904) : Ev (fun k => laws_markInt64S.f k l a) (a + (l.length : Int), upFrom a l.length) := by
  unfold laws_markInt64S.f
  have key : ∀ d i : Nat, i + d = l.length → Ev (fun k => laws_markInt64S.l0 k (upFrom a i ++ l.drop i) (a + (i : Int)) (i : Int)) (a + (l.length : Int), upFrom a l.length) := by
    intro d
    induction d with
    | zero =>
      intro i hi
      obtain rfl : i = l.length := by omega
      refine Ev.step (f := fun _ => some (a + (l.length : Int), upFrom a l.length)) (fun k => ?_) (Ev.now _)
      simp only [laws_markInt64S.l0]
      rw [if_neg (by simp [upFrom_length]), List.drop_length, List.append_nil]
    | succ d ih =>
      intro i hi
      have hlt : i < l.length := by omega
      refine Ev.step (fun k => ?_) (ih (i + 1) (by omega))
      simp only [laws_markInt64S.l0]
      rw [if_pos (by simp [upFrom_length]; omega), if_pos (by omega), wr (by omega) (by omega), wr (by omega) (by omega), Int.toNat_natCast, List.set_append_right _ _ (by rw [upFrom_length]; exact Nat.le_refl _), upFrom_length, Nat.sub_self, List.drop_eq_getElem_cons hlt, List.set_cons_zero, upFrom_succ, List.append_assoc]
      rw [show a + (i : Int) + 1 = a + ((i + 1 : Nat) : Int) by omega]
      rfl
  have := key l.length 0 (by omega)
  simpa [upFrom] using this
theorem heldInt64S_ev (a : Int) (n : Nat) (ha : 0 ≤ a ∧ a ≤ 2147483648) (hl : n ≤ 4611686018427387904) : Ev (fun k => laws_heldInt64S.f k (upFrom a n) a) (a + (n : Int)) := by
  unfold laws_heldInt64S.f
  have key : ∀ d i : Nat, i + d = n → Ev (fun k => laws_heldInt64S.l0 k (upFrom a n) (a + (i : Int)) (i : Int)) (a + (n : Int)) := by
    intro d
    induction d with
    | zero =>
      intro i hi
      obtain rfl : i = n := by omega
      refine Ev.step (f := fun _ => some (a + (i : Int))) (fun k => ?_) (Ev.now _)
      simp only [laws_heldInt64S.l0]
      rw [if_neg (by simp [upFrom_length])]
    | succ d ih =>
      intro i hi
      have hlt : i < (upFrom a n).length := by rw [upFrom_length]; omega
      refine Ev.step (fun k => ?_) (ih (i + 1) (by omega))
      simp only [laws_heldInt64S.l0]
      rw [if_pos (by simp [upFrom_length]; omega), if_pos (by omega), rd_nat _ i hlt, if_pos (by simp [upFrom]), wr (by omega) (by omega), wr (by omega) (by omega)]
      rw [show a + (i : Int) + 1 = a + ((i + 1 : Nat) : Int) by omega]
      rfl
  have := key n 0 (by omega)
  simpa using this
/-- How many values the first i rows hold. -/
def preLen (rows : List (List Int)) (i : Nat) : Nat := ((rows.map List.length).take i).sum
def allLen (rows : List (List Int)) : Nat := (rows.map List.length).sum
def upRow (a : Int) (rows : List (List Int)) (i : Nat) : List Int := upFrom (a + (preLen rows i : Int)) ((rows.map List.length).getD i 0)
/-- Rows as a mark leaves them. -/
def upRows (a : Int) (rows : List (List Int)) : List (List Int) := (List.range rows.length).map (upRow a rows)
theorem preLen_succ (rows : List (List Int)) (i : Nat) (h : i < rows.length) : preLen rows (i + 1) = preLen rows i + rows[i].length := by
  have := sum_take_succ (rows.map List.length) i (by simpa using h)
  rwa [List.getElem_map] at this
theorem preLen_le (rows : List (List Int)) (i : Nat) : preLen rows i ≤ allLen rows := sum_take_le _ _
theorem preLen_end (rows : List (List Int)) : preLen rows rows.length = allLen rows := by
  unfold preLen allLen
  rw [List.take_of_length_le (by simp)]
theorem upRows_length (a : Int) (rows : List (List Int)) : (upRows a rows).length = rows.length := by simp [upRows]
theorem upRow_eq (a : Int) (rows : List (List Int)) (i : Nat) (h : i < rows.length) : upRow a rows i = upFrom (a + (preLen rows i : Int)) rows[i].length := by
  unfold upRow
  rw [List.getD_eq_getElem?_getD, List.getElem?_map, List.getElem?_eq_getElem h]
  rfl
theorem markInt64SS_ev (rows : List (List Int)) (a : Int) (ha : 0 ≤ a ∧ a ≤ 1073741824) (hl : rows.length ≤ 1073741824) (hs : allLen rows ≤ 1073741824) : Ev (fun k => laws_markInt64SS.f k rows a) (a + (allLen rows : Int), upRows a rows) := by
  unfold laws_markInt64SS.f
  have key : ∀ d i : Nat, i + d = rows.length → Ev (fun k => laws_markInt64SS.l0 k ((List.range i).map (upRow a rows) ++ rows.drop i) (a + (preLen rows i : Int)) (i : Int)) (a + (allLen rows : Int), upRows a rows) := by
    intro d
    induction d with
    | zero =>
      intro i hi
      obtain rfl : i = rows.length := by omega
      refine Ev.step (f := fun _ => some (a + (allLen rows : Int), upRows a rows)) (fun k => ?_) (Ev.now _)
      simp only [laws_markInt64SS.l0]
      rw [if_neg (by simp), List.drop_length, List.append_nil, preLen_end]
      rfl
    | succ d ih =>
      intro i hi
      have hlt : i < rows.length := by omega
      have hp := preLen_succ rows i hlt
      have hp2 := preLen_le rows (i + 1)
      have hrow : rd_L1 ((List.range i).map (upRow a rows) ++ rows.drop i) (i : Int) = rows[i] := by
        rw [rdL_nat _ i (by simp; omega), List.getElem_append_right (by simp)]
        simp
      refine Ev.step (f := fun k => (laws_markInt64S.f k rows[i] (a + (preLen rows i : Int))).bind fun t => laws_markInt64SS.l0 k (((List.range i).map (upRow a rows) ++ rows.drop i).set i t.2) t.1 ((i + 1 : Nat) : Int)) (fun k => ?_) (Ev.bind (markInt64S_ev rows[i] _ (by omega) (by omega)) ?_)
      · simp only [laws_markInt64SS.l0]
        rw [if_pos (by simp; omega), if_pos (by omega), hrow, wr (by omega) (by omega), Int.toNat_natCast]
        rfl
      · have e : ((List.range i).map (upRow a rows) ++ rows.drop i).set i (upFrom (a + (preLen rows i : Int)) rows[i].length) = (List.range (i + 1)).map (upRow a rows) ++ rows.drop (i + 1) := by
          rw [List.set_append_right _ _ (by simp), List.length_map, List.length_range, Nat.sub_self, List.drop_eq_getElem_cons hlt, List.set_cons_zero, List.range_succ, List.map_append, List.append_assoc, ← upRow_eq a rows i hlt]
          rfl
        simp only [e]
        rw [show a + (preLen rows i : Int) + (rows[i].length : Int) = a + (preLen rows (i + 1) : Int) by omega]
        exact ih (i + 1) (by omega)
  have := key rows.length 0 (by omega)
  simpa [preLen] using this
theorem heldInt64SS_ev (rows : List (List Int)) (a : Int) (ha : 0 ≤ a ∧ a ≤ 1073741824) (hl : rows.length ≤ 1073741824) (hs : allLen rows ≤ 1073741824) : Ev (fun k => laws_heldInt64SS.f k (upRows a rows) a) (a + (allLen rows : Int)) := by
  unfold laws_heldInt64SS.f
  have key : ∀ d i : Nat, i + d = rows.length → Ev (fun k => laws_heldInt64SS.l0 k (upRows a rows) (a + (preLen rows i : Int)) (i : Int)) (a + (allLen rows : Int)) := by
    intro d
    induction d with
    | zero =>
      intro i hi
      obtain rfl : i = rows.length := by omega
      refine Ev.step (f := fun _ => some (a + (allLen rows : Int))) (fun k => ?_) (Ev.now _)
      simp only [laws_heldInt64SS.l0]
      rw [if_neg (by simp [upRows_length]), preLen_end]
    | succ d ih =>
      intro i hi
      have hlt : i < rows.length := by omega
      have hp := preLen_succ rows i hlt
      have hp2 := preLen_le rows (i + 1)
      have hlt' : i < (upRows a rows).length := by rw [upRows_length]; exact hlt
      have hrow : rd_L1 (upRows a rows) (i : Int) = upFrom (a + (preLen rows i : Int)) rows[i].length := by
        rw [rdL_nat _ i hlt', ← upRow_eq a rows i hlt]
        simp [upRows]
      refine Ev.step (f := fun k => (laws_heldInt64S.f k (upFrom (a + (preLen rows i : Int)) rows[i].length) (a + (preLen rows i : Int))).bind fun t => if t < 0 then some (-1) else laws_heldInt64SS.l0 k (upRows a rows) t ((i + 1 : Nat) : Int)) (fun k => ?_) (Ev.bind (heldInt64S_ev (a + (preLen rows i : Int)) rows[i].length (by omega) (by omega)) ?_)
      · simp only [laws_heldInt64SS.l0]
        rw [if_pos (by simp [upRows_length]; omega), if_pos (by omega), hrow, wr (by omega) (by omega)]
        rfl
      · simp only [if_neg (show ¬ (a + (preLen rows i : Int) + (rows[i].length : Int) < 0) by omega)]
        rw [show a + (preLen rows i : Int) + (rows[i].length : Int) = a + (preLen rows (i + 1) : Int) by omega]
        exact ih (i + 1) (by omega)
  have := key rows.length 0 (by omega)
  simpa [preLen] using this
theorem markMatrix_ev (p c : Int) (rows : List (List Int)) (a : Int) (ha : 0 ≤ a ∧ a ≤ 1073741824) (hl : rows.length ≤ 1073741824) (hs : allLen rows ≤ 1073741824) : Ev (fun k => laws_markMatrix.f k p c rows a) (a + (allLen rows : Int), upRows a rows) := by
  unfold laws_markMatrix.f
  exact markInt64SS_ev rows a ha hl hs
theorem heldMatrix_ev (p c : Int) (rows : List (List Int)) (a : Int) (ha : 0 ≤ a ∧ a ≤ 1073741824) (hl : rows.length ≤ 1073741824) (hs : allLen rows ≤ 1073741824) : Ev (fun k => laws_heldMatrix.f k p c (upRows a rows) a) (a + (allLen rows : Int)) := by
  unfold laws_heldMatrix.f
  refine Ev.bind (heldInt64SS_ev rows a ha hl hs) ?_
  simp only [if_neg (show ¬ (a + (allLen rows : Int) < 0) by omega)]
  exact Ev.now _
end Go.Proofs.Ytopgelloghblaaa.P

namespace Go.Proofs.Ytopgelloghblaaa.P
open Go.RowKit Go.Proofs.YtopgelloghblaaaW.PrintWords Go.Proofs.YtopgelloghblaaaW.PrintLast Go.Proofs.YtopgelloghblaaaW.PrintMore
attribute [local go_sem] max2_int min2_int max_two min_two max_three min_three max_four min_four
set_option linter.unusedVariables false
set_option linter.unusedSimpArgs false

def grp (gs : List (List Int)) (i : Nat) : List Int := gs.getD i []
theorem rdL_grp (gs : List (List Int)) (i : Nat) (h : i < gs.length) : rd_L1 gs (i : Int) = grp gs i := by
  rw [rdL_nat gs i h]; simp [grp, h]
theorem grp_len {gs : List (List Int)} {m : Nat} (hr : ∀ r ∈ gs, r.length ≤ m) (i : Nat) : (grp gs i).length ≤ m := by
  unfold grp
  by_cases h : i < gs.length
  · rw [List.getD_eq_getElem?_getD, List.getElem?_eq_getElem h]; exact hr _ (List.getElem_mem h)
  · rw [List.getD_eq_getElem?_getD, List.getElem?_eq_none (by omega)]; exact Nat.zero_le _

end Go.Proofs.Ytopgelloghblaaa.P

namespace Go.Proofs.Ytopgelloghblaaa.P
open Go.RowKit Go.Proofs.YtopgelloghblaaaW.PrintWords Go.Proofs.YtopgelloghblaaaW.PrintLast Go.Proofs.YtopgelloghblaaaW.PrintMore
attribute [local go_sem] max2_int min2_int max_two min_two max_three min_three max_four min_four
set_option linter.unusedVariables false
set_option linter.unusedSimpArgs false

/-! ### spec_ValidMatrix: function 16 -/
end Go.Proofs.Ytopgelloghblaaa.P

namespace Go.Proofs.Ytopgelloghblaaa.P
open Go.RowKit Go.Proofs.YtopgelloghblaaaW.PrintWords Go.Proofs.YtopgelloghblaaaW.PrintLast Go.Proofs.YtopgelloghblaaaW.PrintMore
attribute [local go_sem] max2_int min2_int max_two min_two max_three min_three max_four min_four
set_option linter.unusedVariables false
set_option linter.unusedSimpArgs false

/-- A row of a matrix: elements modulo p, as many as there are columns. -/
def rowB (p cols : Int) (r : List Int) : Bool := decide ((r.length : Int) = cols) && elemsB p r
def validMB (p cols : Int) (rows : List (List Int)) : Bool := primeB p && (decide (0 ≤ cols ∧ cols ≤ 12) && (decide (rows.length ≤ 20) && rows.all (rowB p cols)))
theorem spec_l03Row_ev (p cols : Int) (r : List Int) (hp : -1000 ≤ p ∧ p ≤ 1000) (hl : r.length ≤ 4611686018427387904) : Ev (fun k => spec_l03Row.f k p cols r) (rowB p cols r) := by
  unfold spec_l03Row.f
  have h := scan_ev (l := fun k i => spec_l03Row.l0 k p cols r i) (n := r.length) (q := fun i => decide (0 ≤ rd r i ∧ rd r i ≤ p - 1)) (fin := decide ((r.length : Int) = cols)) (stop := false)
    (fun i hi hq t ht => by
      refine Ev.step (fun k => ?_) ht
      simp only [spec_l03Row.l0]
      rw [if_pos (by omega), if_pos (by omega), wr (x := p - 1) (by omega) (by omega), spec_l00In_eq, wr (x := (i : Int) + 1) (by omega) (by omega)]
      simp only [Option.bind_some]
      rw [if_pos hq]
      rfl)
    (fun i hi hq => by
      refine Ev.step (f := fun _ => some false) (fun k => ?_) (Ev.now _)
      simp only [spec_l03Row.l0]
      rw [if_pos (by omega), if_pos (by omega), wr (x := p - 1) (by omega) (by omega), spec_l00In_eq]
      simp only [Option.bind_some]
      rw [if_neg (by rw [hq]; decide)])
    (by
      refine Ev.step (f := fun _ => some ((r.length : Int) == cols)) (fun k => ?_) ?_
      · simp only [spec_l03Row.l0]
        rw [if_neg (by omega)]
      · rw [show ((r.length : Int) == cols) = decide ((r.length : Int) = cols) from by by_cases e : (r.length : Int) = cols <;> simp [e]]
        exact Ev.now _)
  rw [range_all r (fun a => decide (0 ≤ a ∧ a ≤ p - 1)) _ (fun i hi => by simp only [rd_nat r i hi])] at h
  rw [show rowB p cols r = (if (r.all fun a => decide (0 ≤ a ∧ a ≤ p - 1)) then decide ((r.length : Int) = cols) else false) from by
    unfold rowB elemsB
    cases (r.all fun a => decide (0 ≤ a ∧ a ≤ p - 1)) <;> simp]
  exact h
theorem spec_l03Ok_ev (p cols : Int) (rows : List (List Int)) (hl : rows.length ≤ 4611686018427387904) (hr : ∀ r ∈ rows, r.length ≤ 4611686018427387904) : Ev (fun k => spec_l03Ok.f k p cols rows) (validMB p cols rows) := by
  unfold spec_l03Ok.f validMB
  refine Ev.bind (spec_IsPrime_ev p) ?_
  have stop : Ev (fun k => spec_l03Ok.j0 k true p cols rows) false :=
    Ev.step (f := fun _ => some false) (fun k => by simp only [spec_l03Ok.j0, if_true]) (Ev.now _)
  cases hp : primeB p with
  | false => exact stop
  | true =>
    have hpr := primeB_range hp
    simp only [if_true, spec_l00In_eq, Option.bind_some, Bool.true_and]
    cases hc : decide (0 ≤ cols ∧ cols ≤ 12) with
    | false => exact stop
    | true =>
      simp only [if_true, Bool.true_and]
      by_cases h20 : (rows.length : Int) > 20
      · rw [decide_eq_true h20, decide_eq_false (show ¬ rows.length ≤ 20 by omega), Bool.false_and]
        exact stop
      · rw [decide_eq_false h20, decide_eq_true (show rows.length ≤ 20 by omega), Bool.true_and]
        refine Ev.step (f := fun k => spec_l03Ok.l0 k 0 p cols rows) (fun k => by simp only [spec_l03Ok.j0]; rw [if_neg (by decide)]) ?_
        have h := scan_ev (l := fun k i => spec_l03Ok.l0 k i p cols rows) (n := rows.length) (q := fun i => rowB p cols (rd_L1 rows i)) (fin := true) (stop := false)
          (fun i hi hq t ht => by
            refine Ev.step (f := fun k => (spec_l03Row.f k p cols (rd_L1 rows i)).bind fun t => if t = true then spec_l03Ok.l0 k ((i + 1 : Nat) : Int) p cols rows else some false) (fun k => ?_) (Ev.bind (spec_l03Row_ev p cols _ (by omega) (by rw [rdL_nat rows i hi]; exact hr _ (List.getElem_mem hi))) ?_)
            · simp only [spec_l03Ok.l0]
              rw [if_pos (by omega), if_pos (by omega), wr (by omega) (by omega)]
              rfl
            · simp only [hq, if_true]
              exact ht)
          (fun i hi hq => by
            refine Ev.step (f := fun k => (spec_l03Row.f k p cols (rd_L1 rows i)).bind fun t => if t = true then spec_l03Ok.l0 k ((i + 1 : Nat) : Int) p cols rows else some false) (fun k => ?_) (Ev.bind (spec_l03Row_ev p cols _ (by omega) (by rw [rdL_nat rows i hi]; exact hr _ (List.getElem_mem hi))) ?_)
            · simp only [spec_l03Ok.l0]
              rw [if_pos (by omega), if_pos (by omega), wr (by omega) (by omega)]
              rfl
            · simp only [hq]
              exact Ev.now _)
          (Ev.step (f := fun _ => some true) (fun k => by simp only [spec_l03Ok.l0]; rw [if_neg (by omega)]) (Ev.now _))
        rw [range_all rows (rowB p cols) _ (fun i hi => by simp only [rdL_nat rows i hi])] at h
        rw [show rows.all (rowB p cols) = (if rows.all (rowB p cols) then true else false) from by cases rows.all (rowB p cols) <;> rfl]
        exact h
theorem idxR_ev (p : Nat → List Int → Option Bool) (q : List Int → Bool) (xs : List (List Int)) (hlen : xs.length ≤ 4611686018427387904) (hp : ∀ x ∈ xs, Ev (fun k => p k x) (q x)) (hm : ∀ x k, LeO (p k x) (p (k + 1) x)) :
    ∀ d i : Nat, i + d = xs.length → ∃ r : Int, Ev (fun k => idxR.l0 k (p k) xs (i : Int)) r ∧ decide (0 ≤ r) = (xs.drop i).any q := by
  have up : ∀ {r : Int} {i : Int}, Ev (fun k => idxR.l0 k (p k) xs i) r → Ev (fun k => idxR.l0 k (p (k + 1)) xs i) r := by
    rintro r i ⟨K, h⟩
    exact ⟨K, fun k hk => idxR.mono_p _ _ _ _ _ (fun x => hm x k) r (h k hk)⟩
  have one : ∀ x ∈ xs, Ev (fun k => p (k + 1) x) (q x) := fun x hx => by
    obtain ⟨K, h⟩ := hp x hx
    exact ⟨K, fun k hk => h (k + 1) (by omega)⟩
  intro d
  induction d with
  | zero =>
    intro i hi
    refine ⟨-1, Ev.step (f := fun _ => some (-1)) (fun k => ?_) (Ev.now _), ?_⟩
    · simp only [idxR.l0]
      rw [if_neg (by omega)]
    · rw [List.drop_eq_nil_of_le (by omega)]; rfl
  | succ d ih =>
    intro i hi
    have hlt : i < xs.length := by omega
    obtain ⟨r, hr, hd⟩ := ih (i + 1) (by omega)
    have hx := one _ (List.getElem_mem hlt)
    rw [List.drop_eq_getElem_cons hlt, List.any_cons]
    have step : ∀ {r : Int}, Ev (fun k => (p (k + 1) xs[i]).bind fun t => if t = true then some (i : Int) else idxR.l0 k (p (k + 1)) xs ((i + 1 : Nat) : Int)) r → Ev (fun k => idxR.l0 k (p k) xs (i : Int)) r := fun h => by
      refine Ev.step (g := fun k => idxR.l0 k (p k) xs (i : Int)) (fun k => ?_) h
      simp only [idxR.l0]
      rw [if_pos (by omega), if_pos (by omega), rdL_nat xs i hlt, wr (by omega) (by omega)]
      rfl
    cases hq : q xs[i] with
    | true =>
      refine ⟨i, step (Ev.bind hx ?_), ?_⟩
      · simp only [hq, if_true]; exact Ev.now _
      · rw [Bool.true_or]; exact decide_eq_true (by omega)
    | false =>
      refine ⟨r, step (Ev.bind hx ?_), ?_⟩
      · simp only [hq]; exact up hr
      · rw [Bool.false_or]; exact hd
theorem hasR_ev (p : Nat → List Int → Option Bool) (q : List Int → Bool) (xs : List (List Int)) (hlen : xs.length ≤ 4611686018427387904) (hp : ∀ x ∈ xs, Ev (fun k => p k x) (q x)) (hm : ∀ x k, LeO (p k x) (p (k + 1) x)) : Ev (fun k => hasR.f k (p k) xs) (xs.any q) := by
  obtain ⟨r, hr, hd⟩ := idxR_ev p q xs hlen hp hm xs.length 0 (by omega)
  rw [List.drop_zero] at hd
  rw [← hd]
  exact Ev.bind hr (Ev.now _)
theorem not_any_all {α : Type} (l : List α) (q : α → Bool) : (!(l.any fun a => !q a)) = l.all q := by
  induction l with
  | nil => rfl
  | cons a l ih => rw [List.any_cons, List.all_cons, ← ih, Bool.not_or, Bool.not_not]
theorem impl_ValidMatrix_ev (p cols : Int) (rows : List (List Int)) (hl : rows.length ≤ 4611686018427387904) (hr : ∀ r ∈ rows, r.length ≤ 4611686018427387904) : Ev (fun k => impl_ValidMatrix.f k p cols rows) (validMB p cols rows) := by
  unfold impl_ValidMatrix.f validMB
  refine Ev.bind (impl_IsPrime_ev p) ?_
  cases hp : primeB p with
  | false => exact Ev.now _
  | true =>
    simp only [if_true, impl_within_eq, Option.bind_some, Bool.true_and]
    cases hc : decide (0 ≤ cols ∧ cols ≤ 12) with
    | false => exact Ev.now _
    | true =>
      simp only [if_true, Bool.true_and]
      by_cases h20 : (rows.length : Int) ≤ 20
      · rw [decide_eq_true (show rows.length ≤ 20 by omega), Bool.true_and, ← not_any_all]
        simp only [if_pos h20]
        refine Ev.bind (hasR_ev (fun k => ValidMatrix_p k p cols) (fun r => !rowB p cols r) rows hl (fun r hrm => ?_) (fun x k => ValidMatrix_p.mono _ _ _ _)) (Ev.now _)
        unfold ValidMatrix_p rowB
        by_cases e : (r.length : Int) = cols
        · simp only [if_pos e, decide_eq_true e, Bool.true_and]
          have := impl_areElements_ev p r (hr r hrm)
          rw [hp, Bool.true_and] at this
          exact Ev.bind this (Ev.now _)
        · simp only [if_neg e, decide_eq_false e, Bool.false_and]
          exact Ev.now _
      · rw [decide_eq_false (show ¬ rows.length ≤ 20 by omega), Bool.false_and]
        simp only [if_neg h20]
        exact Ev.now _

end Go.Proofs.Ytopgelloghblaaa.P

namespace Go.Proofs.Ytopgelloghblaaa.P
open Go.RowKit Go.Proofs.YtopgelloghblaaaW.PrintWords Go.Proofs.YtopgelloghblaaaW.PrintLast Go.Proofs.YtopgelloghblaaaW.PrintMore
attribute [local go_sem] max2_int min2_int max_two min_two max_three min_three max_four min_four
set_option linter.unusedVariables false
set_option linter.unusedSimpArgs false

/-! ### spec_l03Powers: function 115 -/
end Go.Proofs.Ytopgelloghblaaa.P

namespace Go.Proofs.Ytopgelloghblaaa.P
open Go.RowKit Go.Proofs.YtopgelloghblaaaW.PrintWords Go.Proofs.YtopgelloghblaaaW.PrintLast Go.Proofs.YtopgelloghblaaaW.PrintMore
attribute [local go_sem] max2_int min2_int max_two min_two max_three min_three max_four min_four
set_option linter.unusedVariables false
set_option linter.unusedSimpArgs false

/-- A loop that puts one value after another behind a list. -/
theorem build_ev {α ρ : Type} {l : Nat → Int → List α → Option ρ} (n : Nat) (f : Nat → α) {fin : ρ}
    (hgo : ∀ (i : Nat) (acc : List α), i < n → acc.length = i → ∀ r, Ev (fun k => l k ((i + 1 : Nat) : Int) (acc ++ [f i])) r → Ev (fun k => l k (i : Int) acc) r)
    (hend : Ev (fun k => l k (n : Int) ((List.range n).map f)) fin) : Ev (fun k => l k 0 []) fin := by
  have key : ∀ d i : Nat, i + d = n → Ev (fun k => l k (i : Int) ((List.range i).map f)) fin := by
    intro d
    induction d with
    | zero =>
      intro i hi
      obtain rfl : i = n := by omega
      exact hend
    | succ d ih =>
      intro i hi
      refine hgo i _ (by omega) (by simp) _ ?_
      have := ih (i + 1) (by omega)
      rwa [List.range_succ, List.map_append] at this
  exact key n 0 (by omega)
end Go.Proofs.Ytopgelloghblaaa.P

namespace Go.Proofs.Ytopgelloghblaaa.P
open Go.RowKit Go.Proofs.YtopgelloghblaaaW.PrintWords Go.Proofs.YtopgelloghblaaaW.PrintLast Go.Proofs.YtopgelloghblaaaW.PrintMore
attribute [local go_sem] max2_int min2_int max_two min_two max_three min_three max_four min_four
set_option linter.unusedVariables false
set_option linter.unusedSimpArgs false

/-! ### spec_l03Turned: function 74 -/
end Go.Proofs.Ytopgelloghblaaa.P

namespace Go.Proofs.Ytopgelloghblaaa.P
open Go.RowKit Go.Proofs.YtopgelloghblaaaW.PrintWords Go.Proofs.YtopgelloghblaaaW.PrintLast Go.Proofs.YtopgelloghblaaaW.PrintMore
attribute [local go_sem] max2_int min2_int max_two min_two max_three min_three max_four min_four
set_option linter.unusedVariables false
set_option linter.unusedSimpArgs false

/-! ### spec_TransposeOf: function 29 -/
end Go.Proofs.Ytopgelloghblaaa.P

namespace Go.Proofs.Ytopgelloghblaaa.P
open Go.RowKit Go.Proofs.YtopgelloghblaaaW.PrintWords Go.Proofs.YtopgelloghblaaaW.PrintLast Go.Proofs.YtopgelloghblaaaW.PrintMore
attribute [local go_sem] max2_int min2_int max_two min_two max_three min_three max_four min_four
set_option linter.unusedVariables false
set_option linter.unusedSimpArgs false

/-! ### impl_Matrix_transposed: function 76 -/
end Go.Proofs.Ytopgelloghblaaa.P

namespace Go.Proofs.Ytopgelloghblaaa.P
open Go.RowKit Go.Proofs.YtopgelloghblaaaW.PrintWords Go.Proofs.YtopgelloghblaaaW.PrintLast Go.Proofs.YtopgelloghblaaaW.PrintMore
attribute [local go_sem] max2_int min2_int max_two min_two max_three min_three max_four min_four
set_option linter.unusedVariables false
set_option linter.unusedSimpArgs false

/-! ### impl_TransposeOf: function 30 -/
end Go.Proofs.Ytopgelloghblaaa.P

namespace Go.Proofs.Ytopgelloghblaaa.P
open Go.RowKit Go.Proofs.YtopgelloghblaaaW.PrintWords Go.Proofs.YtopgelloghblaaaW.PrintLast Go.Proofs.YtopgelloghblaaaW.PrintMore
attribute [local go_sem] max2_int min2_int max_two min_two max_three min_three max_four min_four
set_option linter.unusedVariables false
set_option linter.unusedSimpArgs false

theorem validMB_parts {p cols : Int} {rows : List (List Int)} (h : validMB p cols rows = true) : (2 ≤ p ∧ p ≤ 31) ∧ (0 ≤ cols ∧ cols ≤ 12) ∧ rows.length ≤ 20 ∧ (∀ i, i < rows.length → ((grp rows i).length : Int) = cols ∧ elemsB p (grp rows i) = true) := by
  unfold validMB at h
  simp only [Bool.and_eq_true, decide_eq_true_eq] at h
  refine ⟨primeB_range h.1, h.2.1, h.2.2.1, fun i hi => ?_⟩
  have := List.all_eq_true.mp h.2.2.2 rows[i] (List.getElem_mem hi)
  unfold rowB at this
  simp only [Bool.and_eq_true, decide_eq_true_eq] at this
  rw [show grp rows i = rows[i] from by simp [grp, hi]]
  exact this
def toldB (p cols : Int) (rows : List (List Int)) : Int × Int × List (List Int) × Int := if validMB p cols rows then (p, cols, rows, 0) else (0, 0, [], 3)
theorem spec_l03Told_ev (p cols : Int) (rows : List (List Int)) (hl : rows.length ≤ 4611686018427387904) (hr : ∀ r ∈ rows, r.length ≤ 4611686018427387904) : Ev (fun k => spec_l03Told.f k p cols rows) (toldB p cols rows) := by
  unfold spec_l03Told.f toldB
  refine Ev.bind (spec_l03Ok_ev p cols rows hl hr) ?_
  cases validMB p cols rows <;> exact Ev.now _
theorem impl_matrixOrLimit_ev (p cols : Int) (rows : List (List Int)) (hl : rows.length ≤ 4611686018427387904) (hr : ∀ r ∈ rows, r.length ≤ 4611686018427387904) : Ev (fun k => impl_matrixOrLimit.f k p cols rows) (toldB p cols rows) := by
  unfold impl_matrixOrLimit.f toldB
  refine Ev.bind (impl_ValidMatrix_ev p cols rows hl hr) ?_
  cases validMB p cols rows <;> exact Ev.now _
theorem sum_le_mul (l : List Nat) (m : Nat) (h : ∀ x ∈ l, x ≤ m) : l.sum ≤ l.length * m := by
  induction l with
  | nil => simp
  | cons a l ih =>
    have := ih (fun x hx => h x (List.mem_cons_of_mem _ hx))
    have := h a (List.mem_cons_self ..)
    rw [List.sum_cons, List.length_cons, Nat.succ_mul]
    omega
theorem validMB_small {p cols : Int} {rows : List (List Int)} (h : validMB p cols rows = true) : rows.length ≤ 20 ∧ (∀ r ∈ rows, r.length ≤ 12) ∧ allLen rows ≤ 240 := by
  obtain ⟨_, h2, h3, h4⟩ := validMB_parts h
  have hr : ∀ r ∈ rows, r.length ≤ 12 := fun r hr => by
    obtain ⟨i, hi, rfl⟩ := List.getElem_of_mem hr
    have := (h4 i hi).1
    rw [show grp rows i = rows[i] from by simp [grp, hi]] at this
    omega
  refine ⟨h3, hr, ?_⟩
  unfold allLen
  have := sum_le_mul (rows.map List.length) 12 (fun x hx => by obtain ⟨r, hr', rfl⟩ := List.mem_map.mp hx; exact hr r hr')
  rw [List.length_map] at this
  omega
theorem toldB_size (p cols : Int) (rows : List (List Int)) : ∃ a b c d, toldB p cols rows = (a, b, c, d) ∧ c.length ≤ 20 ∧ (∀ r ∈ c, r.length ≤ 12) ∧ allLen c ≤ 240 := by
  unfold toldB
  cases h : validMB p cols rows with
  | false => exact ⟨0, 0, [], 3, rfl, by simp, by simp, by simp [allLen]⟩
  | true => exact ⟨_, _, _, _, rfl, validMB_small h⟩

end Go.Proofs.Ytopgelloghblaaa.P

namespace Go.Proofs.Ytopgelloghblaaa.P
open Go.RowKit Go.Proofs.YtopgelloghblaaaW.PrintWords Go.Proofs.YtopgelloghblaaaW.PrintLast Go.Proofs.YtopgelloghblaaaW.PrintMore
attribute [local go_sem] max2_int min2_int max_two min_two max_three min_three max_four min_four
set_option linter.unusedVariables false
set_option linter.unusedSimpArgs false

/-! ### spec_l03Dot: function 79 -/
end Go.Proofs.Ytopgelloghblaaa.P

namespace Go.Proofs.Ytopgelloghblaaa.P
open Go.RowKit Go.Proofs.YtopgelloghblaaaW.PrintWords Go.Proofs.YtopgelloghblaaaW.PrintLast Go.Proofs.YtopgelloghblaaaW.PrintMore
attribute [local go_sem] max2_int min2_int max_two min_two max_three min_three max_four min_four
set_option linter.unusedVariables false
set_option linter.unusedSimpArgs false

/-! ### spec_ProductOf: function 33 -/
end Go.Proofs.Ytopgelloghblaaa.P

namespace Go.Proofs.Ytopgelloghblaaa.P
open Go.RowKit Go.Proofs.YtopgelloghblaaaW.PrintWords Go.Proofs.YtopgelloghblaaaW.PrintLast Go.Proofs.YtopgelloghblaaaW.PrintMore
attribute [local go_sem] max2_int min2_int max_two min_two max_three min_three max_four min_four
set_option linter.unusedVariables false
set_option linter.unusedSimpArgs false

/-! ### impl_dot: function 80 -/
end Go.Proofs.Ytopgelloghblaaa.P

namespace Go.Proofs.Ytopgelloghblaaa.P
open Go.RowKit Go.Proofs.YtopgelloghblaaaW.PrintWords Go.Proofs.YtopgelloghblaaaW.PrintLast Go.Proofs.YtopgelloghblaaaW.PrintMore
attribute [local go_sem] max2_int min2_int max_two min_two max_three min_three max_four min_four
set_option linter.unusedVariables false
set_option linter.unusedSimpArgs false

/-! ### impl_ProductOf: function 34 -/
end Go.Proofs.Ytopgelloghblaaa.P

namespace Go.Proofs.Ytopgelloghblaaa.P
open Go.RowKit Go.Proofs.YtopgelloghblaaaW.PrintWords Go.Proofs.YtopgelloghblaaaW.PrintLast Go.Proofs.YtopgelloghblaaaW.PrintMore
attribute [local go_sem] max2_int min2_int max_two min_two max_three min_three max_four min_four
set_option linter.unusedVariables false
set_option linter.unusedSimpArgs false

/-! ### spec_l04Ok: function 82 -/
end Go.Proofs.Ytopgelloghblaaa.P

namespace Go.Proofs.Ytopgelloghblaaa.P
open Go.RowKit Go.Proofs.YtopgelloghblaaaW.PrintWords Go.Proofs.YtopgelloghblaaaW.PrintLast Go.Proofs.YtopgelloghblaaaW.PrintMore
attribute [local go_sem] max2_int min2_int max_two min_two max_three min_three max_four min_four
set_option linter.unusedVariables false
set_option linter.unusedSimpArgs false

/-! ### spec_l04Shares: function 84 -/
end Go.Proofs.Ytopgelloghblaaa.P

namespace Go.Proofs.Ytopgelloghblaaa.P
open Go.RowKit Go.Proofs.YtopgelloghblaaaW.PrintWords Go.Proofs.YtopgelloghblaaaW.PrintLast Go.Proofs.YtopgelloghblaaaW.PrintMore
attribute [local go_sem] max2_int min2_int max_two min_two max_three min_three max_four min_four
set_option linter.unusedVariables false
set_option linter.unusedSimpArgs false

/-! ### spec_SharesOf: function 36 -/
end Go.Proofs.Ytopgelloghblaaa.P

namespace Go.Proofs.Ytopgelloghblaaa.P
open Go.RowKit Go.Proofs.YtopgelloghblaaaW.PrintWords Go.Proofs.YtopgelloghblaaaW.PrintLast Go.Proofs.YtopgelloghblaaaW.PrintMore
attribute [local go_sem] max2_int min2_int max_two min_two max_three min_three max_four min_four
set_option linter.unusedVariables false
set_option linter.unusedSimpArgs false

/-! ### impl_ValidScheme: function 45 (by hand) -/
end Go.Proofs.Ytopgelloghblaaa.P

namespace Go.Proofs.Ytopgelloghblaaa.P
open Go.RowKit Go.Proofs.YtopgelloghblaaaW.PrintWords Go.Proofs.YtopgelloghblaaaW.PrintLast Go.Proofs.YtopgelloghblaaaW.PrintMore
attribute [local go_sem] max2_int min2_int max_two min_two max_three min_three max_four min_four
set_option linter.unusedVariables false
set_option linter.unusedSimpArgs false

/-! ### impl_SharesOf: function 38 -/
end Go.Proofs.Ytopgelloghblaaa.P

namespace Go.Proofs.Ytopgelloghblaaa.P
open Go.RowKit Go.Proofs.YtopgelloghblaaaW.PrintWords Go.Proofs.YtopgelloghblaaaW.PrintLast Go.Proofs.YtopgelloghblaaaW.PrintMore
attribute [local go_sem] max2_int min2_int max_two min_two max_three min_three max_four min_four
set_option linter.unusedVariables false
set_option linter.unusedSimpArgs false

/-! ### spec_SizesOf: function 42 -/
end Go.Proofs.Ytopgelloghblaaa.P

namespace Go.Proofs.Ytopgelloghblaaa.P
open Go.RowKit Go.Proofs.YtopgelloghblaaaW.PrintWords Go.Proofs.YtopgelloghblaaaW.PrintLast Go.Proofs.YtopgelloghblaaaW.PrintMore
attribute [local go_sem] max2_int min2_int max_two min_two max_three min_three max_four min_four
set_option linter.unusedVariables false
set_option linter.unusedSimpArgs false

/-! ### impl_SizesOf: function 43 -/
end Go.Proofs.Ytopgelloghblaaa.P

namespace Go.Proofs.Ytopgelloghblaaa.P
open Go.RowKit Go.Proofs.YtopgelloghblaaaW.PrintWords Go.Proofs.YtopgelloghblaaaW.PrintLast Go.Proofs.YtopgelloghblaaaW.PrintMore
attribute [local go_sem] max2_int min2_int max_two min_two max_three min_three max_four min_four
set_option linter.unusedVariables false
set_option linter.unusedSimpArgs false

/-! ### spec_ValidScheme: function 44 -/
end Go.Proofs.Ytopgelloghblaaa.P

namespace Go.Proofs.Ytopgelloghblaaa.P
open Go.RowKit Go.Proofs.YtopgelloghblaaaW.PrintWords Go.Proofs.YtopgelloghblaaaW.PrintLast Go.Proofs.YtopgelloghblaaaW.PrintMore
attribute [local go_sem] max2_int min2_int max_two min_two max_three min_three max_four min_four
set_option linter.unusedVariables false
set_option linter.unusedSimpArgs false

end Go.Proofs.Ytopgelloghblaaa.P

namespace Go.Proofs.Ytopgelloghblaaa.P
open Go.RowKit Go.Proofs.YtopgelloghblaaaW.PrintWords Go.Proofs.YtopgelloghblaaaW.PrintLast Go.Proofs.YtopgelloghblaaaW.PrintMore
attribute [local go_sem] max2_int min2_int max_two min_two max_three min_three max_four min_four
set_option linter.unusedVariables false
set_option linter.unusedSimpArgs false

end Go.Proofs.Ytopgelloghblaaa.P

namespace Go.Proofs.Ytopgelloghblaaa.P
open Go.RowKit Go.Proofs.YtopgelloghblaaaW.PrintWords Go.Proofs.YtopgelloghblaaaW.PrintLast Go.Proofs.YtopgelloghblaaaW.PrintMore
attribute [local go_sem] max2_int min2_int max_two min_two max_three min_three max_four min_four
set_option linter.unusedVariables false
set_option linter.unusedSimpArgs false

theorem bne_dec (x y : Int) : (x != y) = !decide (x = y) := by
  by_cases h : x = y
  · subst h; simp
  · simp [h]
end Go.Proofs.Ytopgelloghblaaa.P

namespace Go.Proofs.Ytopgelloghblaaa.P
open Go.RowKit Go.Proofs.YtopgelloghblaaaW.PrintWords Go.Proofs.YtopgelloghblaaaW.PrintLast Go.Proofs.YtopgelloghblaaaW.PrintMore
attribute [local go_sem] max2_int min2_int max_two min_two max_three min_three max_four min_four
set_option linter.unusedVariables false
set_option linter.unusedSimpArgs false

theorem map_grp (rows : List (List Int)) : ((List.range rows.length).map fun i => grp rows i) = rows := by
  refine List.ext_getElem (by simp) (fun i h1 h2 => ?_)
  simp [grp, h2]
theorem own_eq (l : List Int) (hl : l.length ≤ 1048576) : spec_l00Own.f l = some l := by
  unfold spec_l00Own.f
  simp only [Option.bind_some, List.length_nil, List.nil_append]
  rw [if_pos (by omega)]
theorem clone_eq (l : List Int) (hl : l.length ≤ 1048576) : slices_Clone_int64_int64.f l = some l := by
  unfold slices_Clone_int64_int64.f
  rw [if_pos (by omega)]

end Go.Proofs.Ytopgelloghblaaa.P

namespace Go.Proofs.Ytopgelloghblaaa.P
open Go.RowKit Go.Proofs.YtopgelloghblaaaW.PrintWords Go.Proofs.YtopgelloghblaaaW.PrintLast Go.Proofs.YtopgelloghblaaaW.PrintMore
attribute [local go_sem] max2_int min2_int max_two min_two max_three min_three max_four min_four
set_option linter.unusedVariables false
set_option linter.unusedSimpArgs false

/-- Two matrices, one behind the other. -/
def stackB (p c : Int) (rows : List (List Int)) (p' c' : Int) (rows' : List (List Int)) : Int × Int × List (List Int) × Int :=
  if validMB p c rows && validMB p' c' rows' then (if decide (p = p') && decide (c = c') then toldB p c (rows ++ rows') else (0, 0, [], 2)) else (0, 0, [], 1)
theorem spec_l03Copy_ev (p c : Int) (rows : List (List Int)) (hl : rows.length ≤ 1048576) (hr : ∀ r ∈ rows, r.length ≤ 1048576) : Ev (fun k => spec_l03Copy.f k p c rows) (p, c, rows) := by
  unfold spec_l03Copy.f
  refine build_ev (l := fun k i acc => spec_l03Copy.l0 k i p c rows p c acc) rows.length (fun i => grp rows i) (fun i acc hi ha r hr2 => ?_) ?_
  · refine Ev.step (fun k => ?_) hr2
    simp only [spec_l03Copy.l0]
    rw [if_pos (by omega), if_pos (by omega), rdL_grp rows i hi, own_eq _ (grp_len hr i), wr (by omega) (by omega)]
    simp only [Option.bind_some, if_pos (show acc.length < 5864062014805 by omega)]
    rfl
  · refine Ev.step (f := fun _ => some (p, c, rows)) (fun k => ?_) (Ev.now _)
    simp only [spec_l03Copy.l0]
    rw [if_neg (by omega), map_grp]
theorem impl_copyRows_ev (rows : List (List Int)) (hl : rows.length ≤ 1048576) (hr : ∀ r ∈ rows, r.length ≤ 1048576) : Ev (fun k => impl_copyRows.f k rows) rows := by
  unfold impl_copyRows.f
  refine build_ev (l := fun k i acc => impl_copyRows.l0 k acc rows (rows.length : Int) i) rows.length (fun i => grp rows i) (fun i acc hi ha r hr2 => ?_) ?_
  · refine Ev.step (fun k => ?_) hr2
    simp only [impl_copyRows.l0]
    rw [if_pos (by omega), if_pos (by omega), if_pos (by omega), rdL_grp rows i hi, clone_eq _ (grp_len hr i), wr (by omega) (by omega)]
    simp only [Option.bind_some, if_pos (show acc.length < 5864062014805 by omega)]
    rfl
  · refine Ev.step (f := fun _ => some rows) (fun k => ?_) (Ev.now _)
    simp only [impl_copyRows.l0]
    rw [if_neg (by omega), map_grp]
theorem append_rows {m n : Nat} {rows rows' : List (List Int)} (h : ∀ r ∈ rows, r.length ≤ m) (h' : ∀ r ∈ rows', r.length ≤ n) (hm : m ≤ n) : ∀ r ∈ rows ++ rows', r.length ≤ n := fun r hr => by
  rcases List.mem_append.mp hr with hr | hr
  · exact Nat.le_trans (h r hr) hm
  · exact h' r hr
theorem spec_StackRows_ev (p c : Int) (rows : List (List Int)) (p' c' : Int) (rows' : List (List Int)) (hl : rows.length ≤ 1048576) (hr : ∀ r ∈ rows, r.length ≤ 1048576) (hl' : rows'.length ≤ 1048576) (hr' : ∀ r ∈ rows', r.length ≤ 1048576) : Ev (fun k => spec_StackRows.f k p c rows p' c' rows') (stackB p c rows p' c' rows') := by
  unfold spec_StackRows.f stackB
  have stop : Ev (fun k => spec_StackRows.j0 k true p c rows p' c' rows') (0, 0, [], 1) := Ev.step (f := fun _ => some (0, 0, [], 1)) (fun k => by simp only [spec_StackRows.j0, if_true]) (Ev.now _)
  refine Ev.bind (spec_l03Ok_ev p c rows (by omega) (fun r h => Nat.le_trans (hr r h) (by omega))) ?_
  cases hv : validMB p c rows with
  | false => exact stop
  | true =>
    simp only [if_true, Bool.true_and]
    refine Ev.bind (spec_l03Ok_ev p' c' rows' (by omega) (fun r h => Nat.le_trans (hr' r h) (by omega))) ?_
    cases hv' : validMB p' c' rows' with
    | false => exact stop
    | true =>
      have stop2 : Ev (fun k => spec_StackRows.j1 k true p c rows p' c' rows') (0, 0, [], 2) := Ev.step (f := fun _ => some (0, 0, [], 2)) (fun k => by simp only [spec_StackRows.j1, if_true]) (Ev.now _)
      refine Ev.step (f := fun k => if p = p' then spec_StackRows.j1 k (c != c') p c rows p' c' rows' else spec_StackRows.j1 k true p c rows p' c' rows') (fun k => by simp only [spec_StackRows.j0, Bool.not_true]; rw [if_neg (by decide)]) ?_
      by_cases e : p = p'
      · simp only [if_pos e, decide_eq_true e, Bool.true_and, bne_dec]
        by_cases e2 : c = c'
        · simp only [decide_eq_true e2, Bool.not_true, if_true]
          refine Ev.step (f := fun k => (spec_l03Copy.f k p c rows).bind fun bt => (spec_l03Copy.f k p' c' rows').bind fun bt2 => if bt.2.2.length + bt2.2.2.length < 5864062014805 then (spec_l03Told.f k bt.1 bt.2.1 (bt.2.2 ++ bt2.2.2)).bind fun t => some (t.1, t.2.1, t.2.2.1, t.2.2.2) else none) (fun k => by simp only [spec_StackRows.j1]; rw [if_neg (by decide)]) ?_
          refine Ev.bind (spec_l03Copy_ev p c rows hl hr) (Ev.bind (spec_l03Copy_ev p' c' rows' hl' hr') ?_)
          simp only [if_pos (show rows.length + rows'.length < 5864062014805 by omega)]
          exact Ev.bind (spec_l03Told_ev p c (rows ++ rows') (by rw [List.length_append]; omega) (fun r h => Nat.le_trans (append_rows hr hr' (Nat.le_refl _) r h) (by omega))) (Ev.now _)
        · simp only [decide_eq_false e2, Bool.not_false]
          exact stop2
      · simp only [if_neg e, decide_eq_false e, Bool.false_and]
        exact stop2
theorem impl_StackRows_ev (p c : Int) (rows : List (List Int)) (p' c' : Int) (rows' : List (List Int)) (hl : rows.length ≤ 1048576) (hr : ∀ r ∈ rows, r.length ≤ 1048576) (hl' : rows'.length ≤ 1048576) (hr' : ∀ r ∈ rows', r.length ≤ 1048576) : Ev (fun k => impl_StackRows.f k p c rows p' c' rows') (stackB p c rows p' c' rows') := by
  unfold impl_StackRows.f stackB
  have stop : Ev (fun k => impl_StackRows.j0 k true p c rows p' c' rows') (0, 0, [], 1) := Ev.step (f := fun _ => some (0, 0, [], 1)) (fun k => by simp only [impl_StackRows.j0, if_true]) (Ev.now _)
  refine Ev.bind (impl_ValidMatrix_ev p c rows (by omega) (fun r h => Nat.le_trans (hr r h) (by omega))) ?_
  cases hv : validMB p c rows with
  | false => exact stop
  | true =>
    simp only [if_true, Bool.true_and]
    refine Ev.bind (impl_ValidMatrix_ev p' c' rows' (by omega) (fun r h => Nat.le_trans (hr' r h) (by omega))) ?_
    cases hv' : validMB p' c' rows' with
    | false => exact stop
    | true =>
      have stop2 : Ev (fun k => impl_StackRows.j1 k true p c rows p' c' rows') (0, 0, [], 2) := Ev.step (f := fun _ => some (0, 0, [], 2)) (fun k => by simp only [impl_StackRows.j1, if_true]) (Ev.now _)
      refine Ev.step (f := fun k => if p = p' then impl_StackRows.j1 k (c != c') p c rows p' c' rows' else impl_StackRows.j1 k true p c rows p' c' rows') (fun k => by simp only [impl_StackRows.j0, Bool.not_true]; rw [if_neg (by decide)]) ?_
      by_cases e : p = p'
      · simp only [if_pos e, decide_eq_true e, Bool.true_and, bne_dec]
        by_cases e2 : c = c'
        · simp only [decide_eq_true e2, Bool.not_true, if_true]
          refine Ev.step (f := fun k => (impl_copyRows.f k rows).bind fun t => (impl_copyRows.f k rows').bind fun t2 => if t.length + t2.length < 5864062014805 then (impl_matrixOrLimit.f k p c (t ++ t2)).bind fun b => some (b.1, b.2.1, b.2.2.1, b.2.2.2) else none) (fun k => by simp only [impl_StackRows.j1]; rw [if_neg (by decide)]) ?_
          refine Ev.bind (impl_copyRows_ev rows hl hr) (Ev.bind (impl_copyRows_ev rows' hl' hr') ?_)
          simp only [if_pos (show rows.length + rows'.length < 5864062014805 by omega)]
          exact Ev.bind (impl_matrixOrLimit_ev p c (rows ++ rows') (by rw [List.length_append]; omega) (fun r h => Nat.le_trans (append_rows hr hr' (Nat.le_refl _) r h) (by omega))) (Ev.now _)
        · simp only [decide_eq_false e2, Bool.not_false]
          exact stop2
      · simp only [if_neg e, decide_eq_false e, Bool.false_and]
        exact stop2
theorem stackB_size (p c : Int) (rows : List (List Int)) (p' c' : Int) (rows' : List (List Int)) : ∃ a b l d, stackB p c rows p' c' rows' = (a, b, l, d) ∧ l.length ≤ 20 ∧ (∀ r ∈ l, r.length ≤ 12) ∧ allLen l ≤ 240 := by
  unfold stackB
  split
  · split
    · exact toldB_size _ _ _
    · exact ⟨0, 0, [], 2, rfl, by simp, by simp, by simp [allLen]⟩
  · exact ⟨0, 0, [], 1, rfl, by simp, by simp, by simp [allLen]⟩

end Go.Proofs.Ytopgelloghblaaa.P

/- For all matrices the program's StackRows and the reference's answer alike, the arguments stay, and the result is memory of its own. -/
namespace Go.Proofs.Ytopgelloghblaaa.Pure
open Go.RowKit Go.Proofs.Ytopgelloghblaaa.P Go.Proofs.YtopgelloghblaaaW.PrintWords Go.Proofs.YtopgelloghblaaaW.PrintLast Go.Proofs.YtopgelloghblaaaW.PrintMore
set_option linter.unusedVariables false
set_option linter.unusedSimpArgs false

theorem FnExactStackRows : laws_FnExactStackRows.Pure := by
  intro x y hx hy
  obtain ⟨xp, xc, xs⟩ := x
  obtain ⟨yp, yc, ys⟩ := y
  have hl : xs.length ≤ 9223372036854775807 := hx.2.2.1
  have hr : ∀ r ∈ xs, r.length ≤ 9223372036854775807 := fun r h => (hx.2.2.2 r h).1
  have hl' : ys.length ≤ 9223372036854775807 := hy.2.2.1
  have hr' : ∀ r ∈ ys, r.length ≤ 9223372036854775807 := fun r h => (hy.2.2.2 r h).1
  have s1 := szMatrix_ev xp xc xs 1048576 (by omega) hl hr
  by_cases h : (bulk xs : Int) ≤ 1048576
  · rw [if_pos h] at s1
    have s2 := szMatrix_ev yp yc ys (1048576 - (bulk xs : Int)) (by omega) hl' hr'
    by_cases h' : (bulk ys : Int) ≤ 1048576 - (bulk xs : Int)
    · rw [if_pos h'] at s2
      obtain ⟨h1, h2⟩ := bulk_len (rows := xs) (n := 1048576) (by omega)
      obtain ⟨h1', h2'⟩ := bulk_len (rows := ys) (n := 1048576) (by omega)
      have h5 : allLen xs + allLen ys ≤ 1048576 := by unfold bulk at h h'; unfold allLen; omega
      obtain ⟨r1, r2, r3, r4, er, z1, z2, z3⟩ := stackB_size xp xc xs yp yc ys
      have z4 : ∀ r ∈ r3, r.length ≤ 1048576 := fun r hr => Nat.le_trans (z2 r hr) (by omega)
      have e1 := spec_StackRows_ev xp xc xs yp yc ys h1 h2 h1' h2'
      have e2 := impl_StackRows_ev xp xc xs yp yc ys h1 h2 h1' h2'
      rw [er] at e1 e2
      obtain ⟨k, a1, a2, a3, a4, a5, a6, a7, a8, a9, b1, b2, b3, b4⟩ := From.now (From.and s1 (From.and s2 (From.and (toMatrix_ev xp xc xs h1 h2) (From.and (toMatrix_ev yp yc ys h1' h2') (From.and e1 (From.and e2 (From.and (eqMatrix_same r1 r2 r3 (by omega) z4) (From.and (eqMatrix_same xp xc xs h1 h2) (From.and (eqMatrix_same yp yc ys h1' h2') (From.and (markMatrix_ev xp xc xs 1 (by omega) (by omega) (by omega)) (From.and (markMatrix_ev yp yc ys (1 + (allLen xs : Int)) (by omega) (by omega) (by omega)) (From.and (markMatrix_ev r1 r2 r3 1 (by omega) (by omega) (by omega)) (heldMatrix_ev r1 r2 r3 1 (by omega) (by omega) (by omega))))))))))))))
      exact Or.inr (Or.inr ⟨k, _, _, r1, r2, r3, r4, _, _, _, _, _, _, a1, decide_eq_false (by omega), a2, decide_eq_false (by omega), a3, a4, a5, a3, a4, a6, a7, a3, a8, a4, a9, b1, b2, decide_eq_false (by omega), a7, b3, b4, decide_eq_false (by omega), a3, a4, a6, a7, b4, decide_eq_false (by omega)⟩)
    · rw [if_neg h'] at s2
      obtain ⟨k, a1, a2⟩ := From.now (From.and s1 s2)
      exact Or.inr (Or.inl ⟨k, _, _, a1, decide_eq_false (by omega), a2, by decide⟩)
  · rw [if_neg h] at s1
    obtain ⟨k, a1⟩ := From.now s1
    exact Or.inl ⟨k, _, a1, by decide⟩

end Go.Proofs.Ytopgelloghblaaa.Pure

/- The row of the law FnExactStackRows: whatever its arguments, it answers true, and they read as before. No condition. -/
namespace Go.Proofs.Ytopgelloghblaaa.fnExactStackRows
open Go.ChangeShapes Go.WideShapes Go.ChangeAt Go.RowKit Go.Proofs.Ytopgelloghblaaa.P Go.Proofs.YtopgelloghblaaaW.PrintWords Go.Proofs.YtopgelloghblaaaW.PrintLast Go.Proofs.YtopgelloghblaaaW.PrintMore
open Go.ChangeMaps (open_string shut_string)
set_option linter.unusedVariables false
theorem own : ownKnob Try.prog.godebug = none := by kernel_rfl
theorem laidOut : laidOutB Try.prog = true := by kernel_rfl
set_option maxRecDepth 100000 in
theorem lifted (os : Os) (started : os.Started) (H : Type) (enc : TypeId × Value → H) :
    ReturnsInHanded {} Try.checked os 7 .any (Rows.fnExactStackRowsSpec.pre6 enc Try.prog Try.f7 Rows.fnExactStackRowsRow.domain false) (Rows.fnExactStackRowsSpec.post enc Try.prog Try.f7 false true false false) := by
  refine returnsInHanded_of_change_sized (C := Try.checked) own started (by kernel_rfl) Try.func7
    (ChangeSpec.witness6 (enc := enc) (C := Try.checked) false ⟨#[], #[.agg #[.int .i64 0, .int .i64 0, .slice none 0 0], .agg #[.int .i64 0, .int .i64 0, .slice none 0 0]], []⟩ 8 (by kernel_rfl) (by kernel_rfl) (by kernel_rfl) (by kernel_rfl)) ?_
  intro W base args ds gs before hval0 hW hcnd hsz0 _
  have hval : ∀ (j : Nat) t v, Try.f7.params[j]? = some t → args[j]? = some v → Value.okWide Try.prog W .any base t v := hval0
  have hW' := hW
  obtain ⟨p, q, hA0, hV, rfl, hfz, hnd⟩ := hW
  have hA : DataW.TrodAll enc Try.prog W 0 (fun _ => true) true Try.f7.params.toList args.toList ds p := hA0
  rw [Try.params7] at hA hval
  obtain ⟨v0, vs0, d0, ds0, p0, q0, hargs, rfl, rfl, h0, r0⟩ := trodAll_cons hA
  obtain ⟨v1, vs1, d1, ds1, p1, q1, rfl, rfl, rfl, h1, r1⟩ := trodAll_cons r0
  obtain ⟨rfl, rfl, rfl⟩ := trodAll_nil r1
  obtain rfl : args = #[v0, v1] := by cases args; simp_all
  obtain ⟨rfl, rfl⟩ := trodVars_none hV
  have k0 := h0
  have lt0 : ∀ x ∈ p0, x.block < W.heap.size := by obtain ⟨m, hm⟩ := k0; exact DataW.trod_lt m _ _ _ hm
  obtain ⟨cs0, rfl, _⟩ := okWide_struct Try.underlying24 (hval 0 24 v0 rfl rfl)
  obtain ⟨x0, hK0, wf0⟩ := OpensAt.any opensS24 h0
  obtain ⟨A0_2, c0_2, e0, l0_2, g0_2⟩ := k24_open hK0
  obtain rfl : cs0 = #[.int .i64 x0.f0, .int .i64 x0.f1, .slice A0_2 x0.f2.length c0_2] := by cases cs0; simpa [Value.cells] using e0
  have k1 := h1
  have lt1 : ∀ x ∈ p1, x.block < W.heap.size := by obtain ⟨m, hm⟩ := k1; exact DataW.trod_lt m _ _ _ hm
  obtain ⟨cs1, rfl, _⟩ := okWide_struct Try.underlying24 (hval 1 24 v1 rfl rfl)
  obtain ⟨x1, hK1, wf1⟩ := OpensAt.any opensS24 h1
  obtain ⟨A1_2, c1_2, e1, l1_2, g1_2⟩ := k24_open hK1
  obtain rfl : cs1 = #[.int .i64 x1.f0, .int .i64 x1.f1, .slice A1_2 x1.f2.length c1_2] := by cases cs1; simpa [Value.cells] using e1
  clear hA0 hval0 hsz0
  refine (P.laws_FnExactStackRows.walk Pure.FnExactStackRows x0 x1 _ _ _ _ W g0_2 l0_2 g1_2 l1_2 wf0 wf1).mono fun e W' ⟨he, bel⟩ => ?_
  subst he
  exact ⟨_, rfl, _, _, _, [], _, [], hW', trodAll_mk1 (shut_bool Try.underlying4 _), (trodAll_cons_mk (Below.trod laidOut (by kernel_rfl) (of_decide_eq_true (by kernel_rfl)) k0 bel lt0) (trodAll_cons_mk (Below.trod laidOut (by kernel_rfl) (of_decide_eq_true (by kernel_rfl)) k1 bel lt1) trodAll_mk0)), rfl, bel.frame _, fun h => by cases h⟩
theorem over : Rows.fnExactStackRowsRow.holds Try.pinned (OpenSpec.ofChange Rows.fnExactStackRowsSpec) :=
  OpenClaim.holds_of_wide 7 Try.f7 rfl rfl rfl rfl rfl rfl rfl ⟨rfl, rfl, rfl, rfl, rfl⟩ rfl rfl rfl rfl rfl (by kernel_rfl) Try.func7 (by kernel_rfl)
    (of_decide_eq_true (by kernel_rfl)) (by unfold Func.isWrapper; first | (rw [if_pos (by decide +kernel)]; kernel_rfl) | (rw [if_neg (by decide +kernel)]; exact ⟨rfl, rfl⟩))
    (fun os started H enc _ => lifted os started H enc)
theorem proved : Rows.FnExactStackRowsSaid := over
#print axioms proved
end Go.Proofs.Ytopgelloghblaaa.fnExactStackRows
namespace Go.Proofs.Ytopgelloghblaaa
/-- The row, under a short name, for the claim. -/
theorem fnExactStackRows_holds : Rows.FnExactStackRowsSaid := fnExactStackRows.proved
end Go.Proofs.Ytopgelloghblaaa
