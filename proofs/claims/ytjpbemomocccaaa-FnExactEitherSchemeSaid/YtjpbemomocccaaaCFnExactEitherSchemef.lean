/- For all schemes the program's EitherScheme and the reference's answer alike, the arguments stay, and the result is memory of its own. This text: the theorem of the row, and part 6 of what it rests on. -/
import Derived.Test.YtjpbemomocccaaaCFnExactEitherSchemee
import Derived.Below
import Derived.Carry
import Derived.ChangeArms
import Derived.ChangeOld
import Derived.Deep.Cut
import Derived.Deep.Slices
import Derived.OpenShut
import Derived.ProofKit
import Derived.ShutString
import Derived.SizedLaws
import Derived.Test.YtjpbemomocccaaaRows
import Derived.WalkKit
import Derived.WideShapes
namespace Go.Proofs.Ytjpbemomocccaaa.P
open Go.RowKit Go.Proofs.YtjpbemomocccaaaW.PrintWords Go.Proofs.YtjpbemomocccaaaW.PrintLast Go.Proofs.YtjpbemomocccaaaW.PrintMore
attribute [local go_sem] max2_int min2_int max_two min_two max_three min_three max_four min_four
set_option linter.unusedVariables false
set_option linter.unusedSimpArgs false
set_option maxHeartbeats 8000000 in
set_option maxRecDepth 100000 in
theorem laws_FnExactEitherScheme.way0 (k : Nat) (a0_0 : Int) (A0_1 : Option Addr) (c0_1 : Nat) (l0_1 : List Int) (a0_2 : Int) (a0_3 : Int) (A0_4 : Option Addr) (c0_4 : Nat) (l0_4 : List (List Int)) (a1_0 : Int) (A1_1 : Option Addr) (c1_1 : Nat) (l1_1 : List Int) (a1_2 : Int) (a1_3 : Int) (A1_4 : Option Addr) (c1_4 : Nat) (l1_4 : List (List Int)) (s3 : Int) (w : World)  (hr0_1 : Kd.C (Kd.int .i64) w A0_1 l0_1.length l0_1) (hc0_1 : l0_1.length ≤ c0_1) (hr0_4 : Kd.C (Kd.slice 2 (Kd.int .i64)) w A0_4 l0_4.length l0_4) (hc0_4 : l0_4.length ≤ c0_4) (hr1_1 : Kd.C (Kd.int .i64) w A1_1 l1_1.length l1_1) (hc1_1 : l1_1.length ≤ c1_1) (hr1_4 : Kd.C (Kd.slice 2 (Kd.int .i64)) w A1_4 l1_4.length l1_4) (hc1_4 : l1_4.length ≤ c1_4) (A4 : laws_szScheme.f k a0_0 l0_1 a0_2 a0_3 l0_4 1048576 = some s3) (t18 : decide (s3 < 0) = true) :
  Calls Try.prog 11 #[.agg #[.int .i64 a0_0, .slice A0_1 l0_1.length c0_1, .int .i64 a0_2, .int .i64 a0_3, .slice A0_4 l0_4.length c0_4], .agg #[.int .i64 a1_0, .slice A1_1 l1_1.length c1_1, .int .i64 a1_2, .int .i64 a1_3, .slice A1_4 l1_4.length c1_4]] w fun e w' => e = .returned (.bool true) ∧ Below w.heap.size w w' := by
 have hu50 := Try.underlying50
 have HR0_1 := Aside0.mk hr0_1
 have HC0_1 := Aside0.mk hc0_1
 clear hr0_1 hc0_1
 have HR0_4 := Aside0.mk hr0_4
 have HC0_4 := Aside0.mk hc0_4
 clear hr0_4 hc0_4
 have HR1_1 := Aside0.mk hr1_1
 have HC1_1 := Aside0.mk hc1_1
 clear hr1_1 hc1_1
 have HR1_4 := Aside0.mk hr1_4
 have HC1_4 := Aside0.mk hc1_4
 clear hr1_4 hc1_4
 have HB := Aside0.mk (Below.refl w.heap.size w)
 replace A4 := Aside0.mk A4
 go_enter Try.func11, Try.ntmps11
 go_wp2_with (first | ((with_reducible refine gate_callee (f := 39) rfl ?_); refine goesL_ (some 19) rfl rfl Try.func39 (by kernel_rfl) rfl #[.agg #[.int .i64 a0_0, .slice A0_1 l0_1.length c0_1, .int .i64 a0_2, .int .i64 a0_3, .slice A0_4 l0_4.length c0_4], .int .i64 1048576] rfl (by (try simp only [List.map_toArray, List.map_cons, List.map_nil]); first | done | rfl | (simp only [List.length_drop, List.length_take]; rfl)) ?_; (with_reducible refine (laws_szScheme.calls k a0_0 _ _ l0_1 a0_2 a0_3 _ _ l0_4 1048576 s3 _ ?side1 ?side2 ?side3 ?side4 A4.out).mono ?_); (case side1 => exact Kd.C_below HR0_1.out (by repeat (first | (with_reducible first | exact HB.out | apply below_alloc | apply pw_below_drewN | apply below_drew1) | exact HB.out))); (case side2 => exact HC0_1.out); (case side3 => exact Kd.C_below HR0_4.out (by repeat (first | (with_reducible first | exact HB.out | apply below_alloc | apply pw_below_drewN | apply below_drew1) | exact HB.out))); (case side4 => exact HC0_4.out); rintro e w1 ⟨rfl, hb⟩; refine ⟨_, rfl, ?_⟩; have n1_ := Aside0.mk (blk_below (g := w.heap.size) (o := .cells #[.int .i64 a0_0, .slice A0_1 l0_1.length c0_1, .int .i64 a0_2, .int .i64 a0_3, .slice A0_4 l0_4.length c0_4] 50 (0, 0)) (by repeat (first | exact blk_new_at (by simp) | (with_reducible refine blk_drewN ?_ _) | (with_reducible refine blk_drew ?_) | (with_reducible refine blk_alloc ?_ _))) hb); have n2_ := Aside0.mk (blk_below (g := w.heap.size + 1) (o := .cells #[.int .i64 a1_0, .slice A1_1 l1_1.length c1_1, .int .i64 a1_2, .int .i64 a1_3, .slice A1_4 l1_4.length c1_4] 50 (0, 0)) (by repeat (first | exact blk_new_at (by simp) | (with_reducible refine blk_drewN ?_ _) | (with_reducible refine blk_drew ?_) | (with_reducible refine blk_alloc ?_ _))) hb); have n3_ := Aside0.mk (below_step (by repeat (first | (with_reducible first | exact HB.out | apply below_alloc | apply pw_below_drewN | apply below_drew1) | exact HB.out)) hb); have C5 : Aside0 (w.heap.size + 2 ≤ w1.heap.size) := ⟨by have h_ := hb.size; (try simp at h_); omega⟩; have CC := Aside0.mk C5.out; clear HB; have HX1 := n1_; clear n1_; have HX2 := n2_; clear n2_; have HB := n3_; clear n3_; (try clear hb); have hl6 : w.heap.size < w1.heap.size := blk_lt HX1.out; obtain ⟨hx7, hx8, hx9, hx10, hx11, _⟩ := box5 HX1.out; have hl12 : w.heap.size + 1 < w1.heap.size := blk_lt HX2.out; obtain ⟨hx13, hx14, hx15, hx16, hx17, _⟩ := box5 HX2.out))
 go_ret
 exact ⟨rfl, by repeat (first | (with_reducible first | exact HB.out | apply below_alloc | apply pw_below_drewN | apply below_drew1) | exact HB.out)⟩
set_option maxHeartbeats 8000000 in
set_option maxRecDepth 100000 in
theorem laws_FnExactEitherScheme.way1 (k : Nat) (a0_0 : Int) (A0_1 : Option Addr) (c0_1 : Nat) (l0_1 : List Int) (a0_2 : Int) (a0_3 : Int) (A0_4 : Option Addr) (c0_4 : Nat) (l0_4 : List (List Int)) (a1_0 : Int) (A1_1 : Option Addr) (c1_1 : Nat) (l1_1 : List Int) (a1_2 : Int) (a1_3 : Int) (A1_4 : Option Addr) (c1_4 : Nat) (l1_4 : List (List Int)) (s3 : Int) (s19 : Int) (w : World)  (hr0_1 : Kd.C (Kd.int .i64) w A0_1 l0_1.length l0_1) (hc0_1 : l0_1.length ≤ c0_1) (hr0_4 : Kd.C (Kd.slice 2 (Kd.int .i64)) w A0_4 l0_4.length l0_4) (hc0_4 : l0_4.length ≤ c0_4) (hr1_1 : Kd.C (Kd.int .i64) w A1_1 l1_1.length l1_1) (hc1_1 : l1_1.length ≤ c1_1) (hr1_4 : Kd.C (Kd.slice 2 (Kd.int .i64)) w A1_4 l1_4.length l1_4) (hc1_4 : l1_4.length ≤ c1_4) (A4 : laws_szScheme.f k a0_0 l0_1 a0_2 a0_3 l0_4 1048576 = some s3) (t18 : decide (s3 < 0) = false) (A20 : laws_szScheme.f k a1_0 l1_1 a1_2 a1_3 l1_4 s3 = some s19) (t34 : decide (s19 < 0) = true) :
  Calls Try.prog 11 #[.agg #[.int .i64 a0_0, .slice A0_1 l0_1.length c0_1, .int .i64 a0_2, .int .i64 a0_3, .slice A0_4 l0_4.length c0_4], .agg #[.int .i64 a1_0, .slice A1_1 l1_1.length c1_1, .int .i64 a1_2, .int .i64 a1_3, .slice A1_4 l1_4.length c1_4]] w fun e w' => e = .returned (.bool true) ∧ Below w.heap.size w w' := by
 have hu50 := Try.underlying50
 have HR0_1 := Aside0.mk hr0_1
 have HC0_1 := Aside0.mk hc0_1
 clear hr0_1 hc0_1
 have HR0_4 := Aside0.mk hr0_4
 have HC0_4 := Aside0.mk hc0_4
 clear hr0_4 hc0_4
 have HR1_1 := Aside0.mk hr1_1
 have HC1_1 := Aside0.mk hc1_1
 clear hr1_1 hc1_1
 have HR1_4 := Aside0.mk hr1_4
 have HC1_4 := Aside0.mk hc1_4
 clear hr1_4 hc1_4
 have HB := Aside0.mk (Below.refl w.heap.size w)
 replace A4 := Aside0.mk A4
 replace A20 := Aside0.mk A20
 go_enter Try.func11, Try.ntmps11
 go_wp2_with (first | ((with_reducible refine gate_callee (f := 39) rfl ?_); refine goesL_ (some 19) rfl rfl Try.func39 (by kernel_rfl) rfl #[.agg #[.int .i64 a0_0, .slice A0_1 l0_1.length c0_1, .int .i64 a0_2, .int .i64 a0_3, .slice A0_4 l0_4.length c0_4], .int .i64 1048576] rfl (by (try simp only [List.map_toArray, List.map_cons, List.map_nil]); first | done | rfl | (simp only [List.length_drop, List.length_take]; rfl)) ?_; (with_reducible refine (laws_szScheme.calls k a0_0 _ _ l0_1 a0_2 a0_3 _ _ l0_4 1048576 s3 _ ?side1 ?side2 ?side3 ?side4 A4.out).mono ?_); (case side1 => exact Kd.C_below HR0_1.out (by repeat (first | (with_reducible first | exact HB.out | apply below_alloc | apply pw_below_drewN | apply below_drew1) | exact HB.out))); (case side2 => exact HC0_1.out); (case side3 => exact Kd.C_below HR0_4.out (by repeat (first | (with_reducible first | exact HB.out | apply below_alloc | apply pw_below_drewN | apply below_drew1) | exact HB.out))); (case side4 => exact HC0_4.out); rintro e w1 ⟨rfl, hb⟩; refine ⟨_, rfl, ?_⟩; have n1_ := Aside0.mk (blk_below (g := w.heap.size) (o := .cells #[.int .i64 a0_0, .slice A0_1 l0_1.length c0_1, .int .i64 a0_2, .int .i64 a0_3, .slice A0_4 l0_4.length c0_4] 50 (0, 0)) (by repeat (first | exact blk_new_at (by simp) | (with_reducible refine blk_drewN ?_ _) | (with_reducible refine blk_drew ?_) | (with_reducible refine blk_alloc ?_ _))) hb); have n2_ := Aside0.mk (blk_below (g := w.heap.size + 1) (o := .cells #[.int .i64 a1_0, .slice A1_1 l1_1.length c1_1, .int .i64 a1_2, .int .i64 a1_3, .slice A1_4 l1_4.length c1_4] 50 (0, 0)) (by repeat (first | exact blk_new_at (by simp) | (with_reducible refine blk_drewN ?_ _) | (with_reducible refine blk_drew ?_) | (with_reducible refine blk_alloc ?_ _))) hb); have n3_ := Aside0.mk (below_step (by repeat (first | (with_reducible first | exact HB.out | apply below_alloc | apply pw_below_drewN | apply below_drew1) | exact HB.out)) hb); have C5 : Aside0 (w.heap.size + 2 ≤ w1.heap.size) := ⟨by have h_ := hb.size; (try simp at h_); omega⟩; have CC := Aside0.mk C5.out; clear HB; have HX1 := n1_; clear n1_; have HX2 := n2_; clear n2_; have HB := n3_; clear n3_; (try clear hb); have hl6 : w.heap.size < w1.heap.size := blk_lt HX1.out; obtain ⟨hx7, hx8, hx9, hx10, hx11, _⟩ := box5 HX1.out; have hl12 : w.heap.size + 1 < w1.heap.size := blk_lt HX2.out; obtain ⟨hx13, hx14, hx15, hx16, hx17, _⟩ := box5 HX2.out) | ((with_reducible refine gate_callee (f := 39) rfl ?_); refine goesL_ (some 24) rfl rfl Try.func39 (by kernel_rfl) rfl #[.agg #[.int .i64 a1_0, .slice A1_1 l1_1.length c1_1, .int .i64 a1_2, .int .i64 a1_3, .slice A1_4 l1_4.length c1_4], .int .i64 s3] rfl (by (try simp only [List.map_toArray, List.map_cons, List.map_nil]); first | done | rfl | (simp only [List.length_drop, List.length_take]; rfl)) ?_; (with_reducible refine (laws_szScheme.calls k a1_0 _ _ l1_1 a1_2 a1_3 _ _ l1_4 s3 s19 _ ?side1 ?side2 ?side3 ?side4 A20.out).mono ?_); (case side1 => exact Kd.C_below HR1_1.out HB.out); (case side2 => exact HC1_1.out); (case side3 => exact Kd.C_below HR1_4.out HB.out); (case side4 => exact HC1_4.out); rintro e w2 ⟨rfl, hb⟩; refine ⟨_, rfl, ?_⟩; have n1_ := Aside0.mk (blk_below HX1.out hb); have n2_ := Aside0.mk (blk_below HX2.out hb); have n3_ := Aside0.mk (below_step HB.out hb); have C21 : Aside0 (w1.heap.size ≤ w2.heap.size) := ⟨by have h_ := hb.size; (try simp at h_); omega⟩; have CCn_ := Aside0.mk (And.intro CC.out C21.out); clear CC; have CC := CCn_; clear CCn_; clear HX1; clear HX2; clear HB; clear hl6; clear hx7; clear hx8; clear hx9; clear hx10; clear hx11; clear hl12; clear hx13; clear hx14; clear hx15; clear hx16; clear hx17; have HX1 := n1_; clear n1_; have HX2 := n2_; clear n2_; have HB := n3_; clear n3_; (try clear hb); have hl22 : w.heap.size < w2.heap.size := blk_lt HX1.out; obtain ⟨hx23, hx24, hx25, hx26, hx27, _⟩ := box5 HX1.out; have hl28 : w.heap.size + 1 < w2.heap.size := blk_lt HX2.out; obtain ⟨hx29, hx30, hx31, hx32, hx33, _⟩ := box5 HX2.out))
 go_ret
 exact ⟨rfl, by repeat (first | (with_reducible first | exact HB.out | apply below_alloc | apply pw_below_drewN | apply below_drew1) | exact HB.out)⟩
set_option maxHeartbeats 8000000 in
set_option maxRecDepth 100000 in
theorem laws_FnExactEitherScheme.way2 (k : Nat) (a0_0 : Int) (A0_1 : Option Addr) (c0_1 : Nat) (l0_1 : List Int) (a0_2 : Int) (a0_3 : Int) (A0_4 : Option Addr) (c0_4 : Nat) (l0_4 : List (List Int)) (a1_0 : Int) (A1_1 : Option Addr) (c1_1 : Nat) (l1_1 : List Int) (a1_2 : Int) (a1_3 : Int) (A1_4 : Option Addr) (c1_4 : Nat) (l1_4 : List (List Int)) (s3 : Int) (s19 : Int) (r71 : Int) (r72 : List Int) (r73 : Int) (r74 : Int) (r75 : List (List Int)) (r76 : Int) (m408 : Int) (ys409 : List Int) (ys410 : List (List Int)) (m449 : Int) (ys450 : List Int) (ys451 : List (List Int)) (m529 : Int) (ys530 : List Int) (ys531 : List (List Int)) (w : World)  (hr0_1 : Kd.C (Kd.int .i64) w A0_1 l0_1.length l0_1) (hc0_1 : l0_1.length ≤ c0_1) (hr0_4 : Kd.C (Kd.slice 2 (Kd.int .i64)) w A0_4 l0_4.length l0_4) (hc0_4 : l0_4.length ≤ c0_4) (hr1_1 : Kd.C (Kd.int .i64) w A1_1 l1_1.length l1_1) (hc1_1 : l1_1.length ≤ c1_1) (hr1_4 : Kd.C (Kd.slice 2 (Kd.int .i64)) w A1_4 l1_4.length l1_4) (hc1_4 : l1_4.length ≤ c1_4) (A4 : laws_szScheme.f k a0_0 l0_1 a0_2 a0_3 l0_4 1048576 = some s3) (t18 : decide (s3 < 0) = false) (A20 : laws_szScheme.f k a1_0 l1_1 a1_2 a1_3 l1_4 s3 = some s19) (t34 : decide (s19 < 0) = false) (A35 : laws_toScheme.f k a0_0 l0_1 a0_2 a0_3 l0_4 = some (a0_0, l0_1, a0_2, a0_3, l0_4)) (A53 : laws_toScheme.f k a1_0 l1_1 a1_2 a1_3 l1_4 = some (a1_0, l1_1, a1_2, a1_3, l1_4)) (A77 : spec_EitherScheme.f k a0_0 l0_1 a0_2 a0_3 l0_4 a1_0 l1_1 a1_2 a1_3 l1_4 = some (r71, r72, r73, r74, r75, r76)) (A117 : laws_toScheme.f k a0_0 l0_1 a0_2 a0_3 l0_4 = some (a0_0, l0_1, a0_2, a0_3, l0_4)) (A142 : laws_toScheme.f k a1_0 l1_1 a1_2 a1_3 l1_4 = some (a1_0, l1_1, a1_2, a1_3, l1_4)) (A173 : impl_EitherScheme.f k a0_0 l0_1 a0_2 a0_3 l0_4 a1_0 l1_1 a1_2 a1_3 l1_4 = some (r71, r72, r73, r74, r75, r76)) (A210 : laws_eqScheme.f k r71 r72 r73 r74 r75 r71 r72 r73 r74 r75 = some true) (A248 : laws_toScheme.f k a0_0 l0_1 a0_2 a0_3 l0_4 = some (a0_0, l0_1, a0_2, a0_3, l0_4)) (A290 : laws_eqScheme.f k a0_0 l0_1 a0_2 a0_3 l0_4 a0_0 l0_1 a0_2 a0_3 l0_4 = some true) (A328 : laws_toScheme.f k a1_0 l1_1 a1_2 a1_3 l1_4 = some (a1_0, l1_1, a1_2, a1_3, l1_4)) (A370 : laws_eqScheme.f k a1_0 l1_1 a1_2 a1_3 l1_4 a1_0 l1_1 a1_2 a1_3 l1_4 = some true) (A411 : laws_markScheme.f k a0_0 l0_1 a0_2 a0_3 l0_4 1 = some (m408, ys409, ys410)) (A452 : laws_markScheme.f k a1_0 l1_1 a1_2 a1_3 l1_4 m408 = some (m449, ys450, ys451)) (t490 : decide (m449 < 0) = false) (A491 : laws_eqScheme.f k r71 r72 r73 r74 r75 r71 r72 r73 r74 r75 = some true) (A532 : laws_markScheme.f k r71 r72 r73 r74 r75 1 = some (m529, ys530, ys531)) (A570 : laws_heldScheme.f k r71 ys530 r73 r74 ys531 1 = some m529) (t608 : decide (m529 < 0) = false) (A609 : laws_toScheme.f k a0_0 l0_1 a0_2 a0_3 l0_4 = some (a0_0, l0_1, a0_2, a0_3, l0_4)) (A651 : laws_toScheme.f k a1_0 l1_1 a1_2 a1_3 l1_4 = some (a1_0, l1_1, a1_2, a1_3, l1_4)) (A693 : impl_EitherScheme.f k a0_0 l0_1 a0_2 a0_3 l0_4 a1_0 l1_1 a1_2 a1_3 l1_4 = some (r71, r72, r73, r74, r75, r76)) (A781 : laws_eqScheme.f k r71 r72 r73 r74 r75 r71 r72 r73 r74 r75 = some true) (A825 : laws_heldScheme.f k r71 ys530 r73 r74 ys531 1 = some m529) (t869 : decide (m529 < 0) = false) :
  Calls Try.prog 11 #[.agg #[.int .i64 a0_0, .slice A0_1 l0_1.length c0_1, .int .i64 a0_2, .int .i64 a0_3, .slice A0_4 l0_4.length c0_4], .agg #[.int .i64 a1_0, .slice A1_1 l1_1.length c1_1, .int .i64 a1_2, .int .i64 a1_3, .slice A1_4 l1_4.length c1_4]] w fun e w' => e = .returned (.bool true) ∧ Below w.heap.size w w' := by
 have hu50 := Try.underlying50
 have hu53 := Try.underlying53
 have HR0_1 := Aside0.mk hr0_1
 have HC0_1 := Aside0.mk hc0_1
 clear hr0_1 hc0_1
 have HR0_4 := Aside0.mk hr0_4
 have HC0_4 := Aside0.mk hc0_4
 clear hr0_4 hc0_4
 have HR1_1 := Aside0.mk hr1_1
 have HC1_1 := Aside0.mk hc1_1
 clear hr1_1 hc1_1
 have HR1_4 := Aside0.mk hr1_4
 have HC1_4 := Aside0.mk hc1_4
 clear hr1_4 hc1_4
 have HB := Aside0.mk (Below.refl w.heap.size w)
 replace A4 := Aside0.mk A4
 replace A20 := Aside0.mk A20
 replace A35 := Aside0.mk A35
 replace A53 := Aside0.mk A53
 replace A77 := Aside0.mk A77
 replace A117 := Aside0.mk A117
 replace A142 := Aside0.mk A142
 replace A173 := Aside0.mk A173
 replace A210 := Aside0.mk A210
 replace A248 := Aside0.mk A248
 replace A290 := Aside0.mk A290
 replace A328 := Aside0.mk A328
 replace A370 := Aside0.mk A370
 replace A411 := Aside0.mk A411
 replace A452 := Aside0.mk A452
 replace A491 := Aside0.mk A491
 replace A532 := Aside0.mk A532
 replace A570 := Aside0.mk A570
 replace A609 := Aside0.mk A609
 replace A651 := Aside0.mk A651
 replace A693 := Aside0.mk A693
 replace A781 := Aside0.mk A781
 replace A825 := Aside0.mk A825
 go_enter Try.func11, Try.ntmps11
 go_wp2_with (first | ((with_reducible refine gate_callee (f := 39) rfl ?_); refine goesL_ (some 19) rfl rfl Try.func39 (by kernel_rfl) rfl #[.agg #[.int .i64 a0_0, .slice A0_1 l0_1.length c0_1, .int .i64 a0_2, .int .i64 a0_3, .slice A0_4 l0_4.length c0_4], .int .i64 1048576] rfl (by (try simp only [List.map_toArray, List.map_cons, List.map_nil]); first | done | rfl | (simp only [List.length_drop, List.length_take]; rfl)) ?_; (with_reducible refine (laws_szScheme.calls k a0_0 _ _ l0_1 a0_2 a0_3 _ _ l0_4 1048576 s3 _ ?side1 ?side2 ?side3 ?side4 A4.out).mono ?_); (case side1 => exact Kd.C_below HR0_1.out (by repeat (first | (with_reducible first | exact HB.out | apply below_alloc | apply pw_below_drewN | apply below_drew1) | exact HB.out))); (case side2 => exact HC0_1.out); (case side3 => exact Kd.C_below HR0_4.out (by repeat (first | (with_reducible first | exact HB.out | apply below_alloc | apply pw_below_drewN | apply below_drew1) | exact HB.out))); (case side4 => exact HC0_4.out); rintro e w1 ⟨rfl, hb⟩; refine ⟨_, rfl, ?_⟩; have n1_ := Aside0.mk (blk_below (g := w.heap.size) (o := .cells #[.int .i64 a0_0, .slice A0_1 l0_1.length c0_1, .int .i64 a0_2, .int .i64 a0_3, .slice A0_4 l0_4.length c0_4] 50 (0, 0)) (by repeat (first | exact blk_new_at (by simp) | (with_reducible refine blk_drewN ?_ _) | (with_reducible refine blk_drew ?_) | (with_reducible refine blk_alloc ?_ _))) hb); have n2_ := Aside0.mk (blk_below (g := w.heap.size + 1) (o := .cells #[.int .i64 a1_0, .slice A1_1 l1_1.length c1_1, .int .i64 a1_2, .int .i64 a1_3, .slice A1_4 l1_4.length c1_4] 50 (0, 0)) (by repeat (first | exact blk_new_at (by simp) | (with_reducible refine blk_drewN ?_ _) | (with_reducible refine blk_drew ?_) | (with_reducible refine blk_alloc ?_ _))) hb); have n3_ := Aside0.mk (below_step (by repeat (first | (with_reducible first | exact HB.out | apply below_alloc | apply pw_below_drewN | apply below_drew1) | exact HB.out)) hb); have C5 : Aside0 (w.heap.size + 2 ≤ w1.heap.size) := ⟨by have h_ := hb.size; (try simp at h_); omega⟩; have CC := Aside0.mk C5.out; clear HB; have HX1 := n1_; clear n1_; have HX2 := n2_; clear n2_; have HB := n3_; clear n3_; (try clear hb); have hl6 : w.heap.size < w1.heap.size := blk_lt HX1.out; obtain ⟨hx7, hx8, hx9, hx10, hx11, _⟩ := box5 HX1.out; have hl12 : w.heap.size + 1 < w1.heap.size := blk_lt HX2.out; obtain ⟨hx13, hx14, hx15, hx16, hx17, _⟩ := box5 HX2.out) | ((with_reducible refine gate_callee (f := 39) rfl ?_); refine goesL_ (some 24) rfl rfl Try.func39 (by kernel_rfl) rfl #[.agg #[.int .i64 a1_0, .slice A1_1 l1_1.length c1_1, .int .i64 a1_2, .int .i64 a1_3, .slice A1_4 l1_4.length c1_4], .int .i64 s3] rfl (by (try simp only [List.map_toArray, List.map_cons, List.map_nil]); first | done | rfl | (simp only [List.length_drop, List.length_take]; rfl)) ?_; (with_reducible refine (laws_szScheme.calls k a1_0 _ _ l1_1 a1_2 a1_3 _ _ l1_4 s3 s19 _ ?side1 ?side2 ?side3 ?side4 A20.out).mono ?_); (case side1 => exact Kd.C_below HR1_1.out HB.out); (case side2 => exact HC1_1.out); (case side3 => exact Kd.C_below HR1_4.out HB.out); (case side4 => exact HC1_4.out); rintro e w2 ⟨rfl, hb⟩; refine ⟨_, rfl, ?_⟩; have n1_ := Aside0.mk (blk_below HX1.out hb); have n2_ := Aside0.mk (blk_below HX2.out hb); have n3_ := Aside0.mk (below_step HB.out hb); have C21 : Aside0 (w1.heap.size ≤ w2.heap.size) := ⟨by have h_ := hb.size; (try simp at h_); omega⟩; have CCn_ := Aside0.mk (And.intro CC.out C21.out); clear CC; have CC := CCn_; clear CCn_; clear HX1; clear HX2; clear HB; clear hl6; clear hx7; clear hx8; clear hx9; clear hx10; clear hx11; clear hl12; clear hx13; clear hx14; clear hx15; clear hx16; clear hx17; have HX1 := n1_; clear n1_; have HX2 := n2_; clear n2_; have HB := n3_; clear n3_; (try clear hb); have hl22 : w.heap.size < w2.heap.size := blk_lt HX1.out; obtain ⟨hx23, hx24, hx25, hx26, hx27, _⟩ := box5 HX1.out; have hl28 : w.heap.size + 1 < w2.heap.size := blk_lt HX2.out; obtain ⟨hx29, hx30, hx31, hx32, hx33, _⟩ := box5 HX2.out))
 go_cut [6, 7] from 27 (fun s6_ s7_ wx => ∃ (gC96 : Nat) (Az80 : Option Addr) (cz80 : Nat) (Az82 : Option Addr) (cz82 : Nat), s6_ = .pointer (some ⟨gC96, 0, none⟩) ∧ s7_ = .int .i64 r76 ∧ Aside0 (Kd.R (Kd.int .i64) 2 wx w.heap.size (fun k_ => w2.heap.size ≤ k_ ∧ k_ < wx.heap.size) (.slice Az80 r72.length cz80) r72) ∧ Aside0 (Kd.S (Kd.slice 2 (Kd.int .i64)) 35 wx w.heap.size (fun k_ => w2.heap.size ≤ k_ ∧ k_ < wx.heap.size) (.slice Az82 r75.length cz82) r75) ∧ Aside0 (wx.heap[gC96]? = some (.cells #[.int .i64 r71, .slice Az80 r72.length cz80, .int .i64 r73, .int .i64 r74, .slice Az82 r75.length cz82] 53 (0, 0))) ∧ Aside0 (wx.heap[w.heap.size]? = some (.cells #[.int .i64 a0_0, .slice A0_1 l0_1.length c0_1, .int .i64 a0_2, .int .i64 a0_3, .slice A0_4 l0_4.length c0_4] 50 (0, 0))) ∧ Aside0 (wx.heap[w.heap.size + 1]? = some (.cells #[.int .i64 a1_0, .slice A1_1 l1_1.length c1_1, .int .i64 a1_2, .int .i64 a1_3, .slice A1_4 l1_4.length c1_4] 50 (0, 0))) ∧ Aside0 (Below w.heap.size w wx) ∧ Aside0 (w2.heap.size ≤ wx.heap.size))
 case first =>
  go_region_held3 (fun w' => w'.cell? ⟨w.heap.size, 0, none⟩ = some (.int .i64 a0_0) ∧ w'.cell? ⟨w.heap.size, 1, none⟩ = some (.slice A0_1 l0_1.length c0_1) ∧ w'.cell? ⟨w.heap.size, 2, none⟩ = some (.int .i64 a0_2) ∧ w'.cell? ⟨w.heap.size, 3, none⟩ = some (.int .i64 a0_3) ∧ w'.cell? ⟨w.heap.size, 4, none⟩ = some (.slice A0_4 l0_4.length c0_4) ∧ w'.cell? ⟨w.heap.size + 1, 0, none⟩ = some (.int .i64 a1_0) ∧ w'.cell? ⟨w.heap.size + 1, 1, none⟩ = some (.slice A1_1 l1_1.length c1_1) ∧ w'.cell? ⟨w.heap.size + 1, 2, none⟩ = some (.int .i64 a1_2) ∧ w'.cell? ⟨w.heap.size + 1, 3, none⟩ = some (.int .i64 a1_3) ∧ w'.cell? ⟨w.heap.size + 1, 4, none⟩ = some (.slice A1_4 l1_4.length c1_4)) (first | ((repeat' apply And.intro) <;> (with_reducible assumption)) | exact ⟨(cell_far5 (a := ⟨w.heap.size, 0, none⟩) (blk_ne HX1.out hz_.out (by decide))).trans (by assumption), (cell_far5 (a := ⟨w.heap.size, 1, none⟩) (blk_ne HX1.out hz_.out (by decide))).trans (by assumption), (cell_far5 (a := ⟨w.heap.size, 2, none⟩) (blk_ne HX1.out hz_.out (by decide))).trans (by assumption), (cell_far5 (a := ⟨w.heap.size, 3, none⟩) (blk_ne HX1.out hz_.out (by decide))).trans (by assumption), (cell_far5 (a := ⟨w.heap.size, 4, none⟩) (blk_ne HX1.out hz_.out (by decide))).trans (by assumption), (cell_far5 (a := ⟨w.heap.size + 1, 0, none⟩) (blk_ne HX2.out hz_.out (by decide))).trans (by assumption), (cell_far5 (a := ⟨w.heap.size + 1, 1, none⟩) (blk_ne HX2.out hz_.out (by decide))).trans (by assumption), (cell_far5 (a := ⟨w.heap.size + 1, 2, none⟩) (blk_ne HX2.out hz_.out (by decide))).trans (by assumption), (cell_far5 (a := ⟨w.heap.size + 1, 3, none⟩) (blk_ne HX2.out hz_.out (by decide))).trans (by assumption), (cell_far5 (a := ⟨w.heap.size + 1, 4, none⟩) (blk_ne HX2.out hz_.out (by decide))).trans (by assumption)⟩ | go_keep) (first | (go_at_call 41; (with_reducible refine (laws_toScheme.calls k a0_0 _ _ l0_1 a0_2 a0_3 _ _ l0_4 a0_0 l0_1 a0_2 a0_3 l0_4 _ ?side1 ?side2 ?side3 ?side4 A35.out).mono ?_); (case side1 => exact Kd.C_below HR0_1.out (by repeat (first | (with_reducible first | exact HB.out | apply below_alloc | apply pw_below_drewN | apply below_drew1) | exact HB.out))); (case side2 => exact HC0_1.out); (case side3 => exact Kd.C_below HR0_4.out (by repeat (first | (with_reducible first | exact HB.out | apply below_alloc | apply pw_below_drewN | apply below_drew1) | exact HB.out))); (case side4 => exact HC0_4.out); rintro e w3 ⟨v100_, v101_, rfl, ho0_, ho1_, hb⟩; (first | (have hzn_ := Aside0.mk (blk_below (g := w2.heap.size) (o := .cells #[(.int .i64 0 : Value), (.slice none 0 0 : Value), (.int .i64 0 : Value), (.int .i64 0 : Value), (.slice none 0 0 : Value)] 53 (0, 0)) (by exact blk_new_at (by simp)) hb)) | (have hzn_ := Aside0.mk (blk_below (o := .cells #[(.int .i64 0 : Value), (.slice none 0 0 : Value), (.int .i64 0 : Value), (.int .i64 0 : Value), (.slice none 0 0 : Value)] 53 (0, 0)) hz_.out hb); clear hz_) | skip); (try (have hz_ := hzn_; clear hzn_)); (try have hzc0_ : w3.cell? ⟨_, 0, none⟩ = some ((.int .i64 0 : Value)) := (blk_cell hz_.out 0).trans rfl); (try have hzf0_ := blk_frozen hz_.out 0); (try have hzc1_ : w3.cell? ⟨_, 1, none⟩ = some ((.slice none 0 0 : Value)) := (blk_cell hz_.out 1).trans rfl); (try have hzf1_ := blk_frozen hz_.out 1); (try have hzc2_ : w3.cell? ⟨_, 2, none⟩ = some ((.int .i64 0 : Value)) := (blk_cell hz_.out 2).trans rfl); (try have hzf2_ := blk_frozen hz_.out 2); (try have hzc3_ : w3.cell? ⟨_, 3, none⟩ = some ((.int .i64 0 : Value)) := (blk_cell hz_.out 3).trans rfl); (try have hzf3_ := blk_frozen hz_.out 3); (try have hzc4_ : w3.cell? ⟨_, 4, none⟩ = some ((.slice none 0 0 : Value)) := (blk_cell hz_.out 4).trans rfl); (try have hzf4_ := blk_frozen hz_.out 4); (try have hzl_ := blk_lt hz_.out); have n1_ := Aside0.mk (blk_below (g := w.heap.size) (o := .cells #[.int .i64 a0_0, .slice A0_1 l0_1.length c0_1, .int .i64 a0_2, .int .i64 a0_3, .slice A0_4 l0_4.length c0_4] 50 (0, 0)) (by (with_reducible repeat (first | refine blk_drewN ?_ _ | refine blk_drew ?_ | refine blk_alloc ?_ _)); exact HX1.out) hb); have n2_ := Aside0.mk (blk_below (g := w.heap.size + 1) (o := .cells #[.int .i64 a1_0, .slice A1_1 l1_1.length c1_1, .int .i64 a1_2, .int .i64 a1_3, .slice A1_4 l1_4.length c1_4] 50 (0, 0)) (by (with_reducible repeat (first | refine blk_drewN ?_ _ | refine blk_drew ?_ | refine blk_alloc ?_ _)); exact HX2.out) hb); have n3_ := Aside0.mk (below_step (by repeat (first | (with_reducible first | exact HB.out | apply below_alloc | apply pw_below_drewN | apply below_drew1) | exact HB.out)) hb); have C36 : Aside0 (w2.heap.size ≤ w3.heap.size) := ⟨by have h_ := hb.size; (try simp at h_); omega⟩; have CCn_ := Aside0.mk (And.intro CC.out C36.out); clear CC; have CC := CCn_; clear CCn_; clear HX1; clear HX2; clear HB; clear hl22; clear hx23; clear hx24; clear hx25; clear hx26; clear hx27; clear hl28; clear hx29; clear hx30; clear hx31; clear hx32; clear hx33; have HX1 := n1_; clear n1_; have HX2 := n2_; clear n2_; have HB := n3_; clear n3_; have HO37 := Aside0.mk (Kd.R_lower (base' := w.heap.size) (Kd.R_mono (Kd.R_bound (Kd.R_tight rfl ho0_)) (ok' := fun k_ => (w2.heap.size ≤ k_ ∧ k_ < w3.heap.size) ∧ some k_ = (v100_ : Value).ownBlock) (fun k_ hk_ => ⟨⟨by have h_ := hk_.2.1; (try simp at h_); omega, hk_.2.2.1⟩, hk_.1⟩)) (by have := CC.out; first | omega | (simp; done) | (simp; omega))); obtain ⟨Az38, cz38, ez38⟩ := Kd.R_slice HO37.out; subst ez38; have HO39 := Aside0.mk (Kd.S_lower (base' := w.heap.size) (Kd.S_mono (Kd.S_bound ho1_) (ok' := fun k_ => (w2.heap.size ≤ k_ ∧ k_ < w3.heap.size) ∧ some k_ ≠ (.slice Az38 l0_1.length cz38 : Value).ownBlock) (fun k_ hk_ => ⟨⟨by have h_ := hk_.2.1; (try simp at h_); omega, hk_.2.2.1⟩, hk_.1⟩)) (by have := CC.out; first | omega | (simp; done) | (simp; omega))); obtain ⟨Az40, cz40, ez40⟩ := Kd.S_slice HO39.out; subst ez40; (try clear hb); (try clear ho0_); (try clear ho1_); have hl41 : w.heap.size < w3.heap.size := blk_lt HX1.out; obtain ⟨hx42, hx43, hx44, hx45, hx46, _⟩ := box5 HX1.out; have hl47 : w.heap.size + 1 < w3.heap.size := blk_lt HX2.out; obtain ⟨hx48, hx49, hx50, hx51, hx52, _⟩ := box5 HX2.out) | (go_at_call 41; (with_reducible refine (laws_toScheme.calls k a1_0 _ _ l1_1 a1_2 a1_3 _ _ l1_4 a1_0 l1_1 a1_2 a1_3 l1_4 _ ?side1 ?side2 ?side3 ?side4 A53.out).mono ?_); (case side1 => exact Kd.C_below HR1_1.out (by repeat (first | (with_reducible first | exact HB.out | apply below_alloc | apply pw_below_drewN | apply below_drew1) | exact HB.out))); (case side2 => exact HC1_1.out); (case side3 => exact Kd.C_below HR1_4.out (by repeat (first | (with_reducible first | exact HB.out | apply below_alloc | apply pw_below_drewN | apply below_drew1) | exact HB.out))); (case side4 => exact HC1_4.out); rintro e w4 ⟨v100_, v101_, rfl, ho0_, ho1_, hb⟩; have n1_ := Aside0.mk (Kd.R_below (by (with_reducible repeat (first | apply Kd.R_alloc | apply Kd.R_drewN | apply Kd.R_drew)); exact HO37.out) hb); have n2_ := Aside0.mk (Kd.S_below (by (with_reducible repeat (first | apply Kd.S_alloc | apply Kd.S_drewN | apply Kd.S_drew)); exact HO39.out) hb); (try clear hzc0_); (try clear hzf0_); (try clear hzc1_); (try clear hzf1_); (try clear hzc2_); (try clear hzf2_); (try clear hzc3_); (try clear hzf3_); (try clear hzc4_); (try clear hzf4_); (try clear hzl_); (first | (have hzn_ := Aside0.mk (blk_below (g := w3.heap.size) (o := .cells #[(.int .i64 0 : Value), (.slice none 0 0 : Value), (.int .i64 0 : Value), (.int .i64 0 : Value), (.slice none 0 0 : Value)] 53 (0, 0)) (by exact blk_new_at (by simp)) hb)) | (have hzn_ := Aside0.mk (blk_below (o := .cells #[(.int .i64 0 : Value), (.slice none 0 0 : Value), (.int .i64 0 : Value), (.int .i64 0 : Value), (.slice none 0 0 : Value)] 53 (0, 0)) hz_.out hb); clear hz_) | skip); (try (have hz_ := hzn_; clear hzn_)); (try have hzc0_ : w4.cell? ⟨_, 0, none⟩ = some ((.int .i64 0 : Value)) := (blk_cell hz_.out 0).trans rfl); (try have hzf0_ := blk_frozen hz_.out 0); (try have hzc1_ : w4.cell? ⟨_, 1, none⟩ = some ((.slice none 0 0 : Value)) := (blk_cell hz_.out 1).trans rfl); (try have hzf1_ := blk_frozen hz_.out 1); (try have hzc2_ : w4.cell? ⟨_, 2, none⟩ = some ((.int .i64 0 : Value)) := (blk_cell hz_.out 2).trans rfl); (try have hzf2_ := blk_frozen hz_.out 2); (try have hzc3_ : w4.cell? ⟨_, 3, none⟩ = some ((.int .i64 0 : Value)) := (blk_cell hz_.out 3).trans rfl); (try have hzf3_ := blk_frozen hz_.out 3); (try have hzc4_ : w4.cell? ⟨_, 4, none⟩ = some ((.slice none 0 0 : Value)) := (blk_cell hz_.out 4).trans rfl); (try have hzf4_ := blk_frozen hz_.out 4); (try have hzl_ := blk_lt hz_.out); have n3_ := Aside0.mk (blk_below (g := w.heap.size) (o := .cells #[.int .i64 a0_0, .slice A0_1 l0_1.length c0_1, .int .i64 a0_2, .int .i64 a0_3, .slice A0_4 l0_4.length c0_4] 50 (0, 0)) (by (with_reducible repeat (first | refine blk_drewN ?_ _ | refine blk_drew ?_ | refine blk_alloc ?_ _)); exact HX1.out) hb); have n4_ := Aside0.mk (blk_below (g := w.heap.size + 1) (o := .cells #[.int .i64 a1_0, .slice A1_1 l1_1.length c1_1, .int .i64 a1_2, .int .i64 a1_3, .slice A1_4 l1_4.length c1_4] 50 (0, 0)) (by (with_reducible repeat (first | refine blk_drewN ?_ _ | refine blk_drew ?_ | refine blk_alloc ?_ _)); exact HX2.out) hb); have n5_ := Aside0.mk (below_step (by repeat (first | (with_reducible first | exact HB.out | apply below_alloc | apply pw_below_drewN | apply below_drew1) | exact HB.out)) hb); have C54 : Aside0 (w3.heap.size ≤ w4.heap.size) := ⟨by have h_ := hb.size; (try simp at h_); omega⟩; have CCn_ := Aside0.mk (And.intro CC.out C54.out); clear CC; have CC := CCn_; clear CCn_; clear HO37; clear HO39; clear HX1; clear HX2; clear HB; clear hl41; clear hx42; clear hx43; clear hx44; clear hx45; clear hx46; clear hl47; clear hx48; clear hx49; clear hx50; clear hx51; clear hx52; have HO37 := n1_; clear n1_; have HO39 := n2_; clear n2_; have HX1 := n3_; clear n3_; have HX2 := n4_; clear n4_; have HB := n5_; clear n5_; have HO55 := Aside0.mk (Kd.R_lower (base' := w.heap.size) (Kd.R_mono (Kd.R_bound (Kd.R_tight rfl ho0_)) (ok' := fun k_ => (w3.heap.size ≤ k_ ∧ k_ < w4.heap.size) ∧ some k_ = (v100_ : Value).ownBlock) (fun k_ hk_ => ⟨⟨by have h_ := hk_.2.1; (try simp at h_); omega, hk_.2.2.1⟩, hk_.1⟩)) (by have := CC.out; first | omega | (simp; done) | (simp; omega))); obtain ⟨Az56, cz56, ez56⟩ := Kd.R_slice HO55.out; subst ez56; have HO57 := Aside0.mk (Kd.S_lower (base' := w.heap.size) (Kd.S_mono (Kd.S_bound ho1_) (ok' := fun k_ => (w3.heap.size ≤ k_ ∧ k_ < w4.heap.size) ∧ some k_ ≠ (.slice Az56 l1_1.length cz56 : Value).ownBlock) (fun k_ hk_ => ⟨⟨by have h_ := hk_.2.1; (try simp at h_); omega, hk_.2.2.1⟩, hk_.1⟩)) (by have := CC.out; first | omega | (simp; done) | (simp; omega))); obtain ⟨Az58, cz58, ez58⟩ := Kd.S_slice HO57.out; subst ez58; (try clear hb); (try clear ho0_); (try clear ho1_); have hl59 : w.heap.size < w4.heap.size := blk_lt HX1.out; obtain ⟨hx60, hx61, hx62, hx63, hx64, _⟩ := box5 HX1.out; have hl65 : w.heap.size + 1 < w4.heap.size := blk_lt HX2.out; obtain ⟨hx66, hx67, hx68, hx69, hx70, _⟩ := box5 HX2.out) | (go_at_call 40; (with_reducible refine (spec_EitherScheme.calls k a0_0 _ _ l0_1 a0_2 a0_3 _ _ l0_4 a1_0 _ _ l1_1 a1_2 a1_3 _ _ l1_4 r71 r72 r73 r74 r75 r76 _ ?side1 ?side2 ?side3 ?side4 ?side5 ?side6 ?side7 ?side8 A77.out).mono ?_); (case side1 => exact (Kd.R_reads' (n := l0_1.length) (A := Az38) (c := cz38) (by (with_reducible repeat (first | apply Kd.R_alloc | apply Kd.R_drewN | apply Kd.R_drew)); exact HO37.out)).2.2); (case side2 => exact (Kd.R_reads' (n := l0_1.length) (A := Az38) (c := cz38) HO37.out).2.1); (case side3 => exact (Kd.S_reads' (n := l0_4.length) (A := Az40) (c := cz40) (by (with_reducible repeat (first | apply Kd.S_alloc | apply Kd.S_drewN | apply Kd.S_drew)); exact HO39.out)).2.2); (case side4 => exact (Kd.S_reads' (n := l0_4.length) (A := Az40) (c := cz40) HO39.out).2.1); (case side5 => exact (Kd.R_reads' (n := l1_1.length) (A := Az56) (c := cz56) (by (with_reducible repeat (first | apply Kd.R_alloc | apply Kd.R_drewN | apply Kd.R_drew)); exact HO55.out)).2.2); (case side6 => exact (Kd.R_reads' (n := l1_1.length) (A := Az56) (c := cz56) HO55.out).2.1); (case side7 => exact (Kd.S_reads' (n := l1_4.length) (A := Az58) (c := cz58) (by (with_reducible repeat (first | apply Kd.S_alloc | apply Kd.S_drewN | apply Kd.S_drew)); exact HO57.out)).2.2); (case side8 => exact (Kd.S_reads' (n := l1_4.length) (A := Az58) (c := cz58) HO57.out).2.1); rintro e w5 ⟨v100_, v101_, rfl, ho0_, ho1_, hb⟩; have n1_ := Aside0.mk (Kd.R_below (by (with_reducible repeat (first | apply Kd.R_alloc | apply Kd.R_drewN | apply Kd.R_drew)); exact HO37.out) hb); have n2_ := Aside0.mk (Kd.S_below (by (with_reducible repeat (first | apply Kd.S_alloc | apply Kd.S_drewN | apply Kd.S_drew)); exact HO39.out) hb); have n3_ := Aside0.mk (Kd.R_below (by (with_reducible repeat (first | apply Kd.R_alloc | apply Kd.R_drewN | apply Kd.R_drew)); exact HO55.out) hb); have n4_ := Aside0.mk (Kd.S_below (by (with_reducible repeat (first | apply Kd.S_alloc | apply Kd.S_drewN | apply Kd.S_drew)); exact HO57.out) hb); (try clear hzc0_); (try clear hzf0_); (try clear hzc1_); (try clear hzf1_); (try clear hzc2_); (try clear hzf2_); (try clear hzc3_); (try clear hzf3_); (try clear hzc4_); (try clear hzf4_); (try clear hzl_); (first | (have hzn_ := Aside0.mk (blk_below (g := w4.heap.size) (o := .cells #[(.int .i64 0 : Value), (.slice none 0 0 : Value), (.int .i64 0 : Value), (.int .i64 0 : Value), (.slice none 0 0 : Value)] 53 (0, 0)) (by exact blk_new_at (by simp)) hb)) | (have hzn_ := Aside0.mk (blk_below (o := .cells #[(.int .i64 0 : Value), (.slice none 0 0 : Value), (.int .i64 0 : Value), (.int .i64 0 : Value), (.slice none 0 0 : Value)] 53 (0, 0)) hz_.out hb); clear hz_) | skip); (try (have hz_ := hzn_; clear hzn_)); (try have hzc0_ : w5.cell? ⟨_, 0, none⟩ = some ((.int .i64 0 : Value)) := (blk_cell hz_.out 0).trans rfl); (try have hzf0_ := blk_frozen hz_.out 0); (try have hzc1_ : w5.cell? ⟨_, 1, none⟩ = some ((.slice none 0 0 : Value)) := (blk_cell hz_.out 1).trans rfl); (try have hzf1_ := blk_frozen hz_.out 1); (try have hzc2_ : w5.cell? ⟨_, 2, none⟩ = some ((.int .i64 0 : Value)) := (blk_cell hz_.out 2).trans rfl); (try have hzf2_ := blk_frozen hz_.out 2); (try have hzc3_ : w5.cell? ⟨_, 3, none⟩ = some ((.int .i64 0 : Value)) := (blk_cell hz_.out 3).trans rfl); (try have hzf3_ := blk_frozen hz_.out 3); (try have hzc4_ : w5.cell? ⟨_, 4, none⟩ = some ((.slice none 0 0 : Value)) := (blk_cell hz_.out 4).trans rfl); (try have hzf4_ := blk_frozen hz_.out 4); (try have hzl_ := blk_lt hz_.out); have n5_ := Aside0.mk (blk_below (g := w.heap.size) (o := .cells #[.int .i64 a0_0, .slice A0_1 l0_1.length c0_1, .int .i64 a0_2, .int .i64 a0_3, .slice A0_4 l0_4.length c0_4] 50 (0, 0)) (by (with_reducible repeat (first | refine blk_drewN ?_ _ | refine blk_drew ?_ | refine blk_alloc ?_ _)); exact HX1.out) hb); have n6_ := Aside0.mk (blk_below (g := w.heap.size + 1) (o := .cells #[.int .i64 a1_0, .slice A1_1 l1_1.length c1_1, .int .i64 a1_2, .int .i64 a1_3, .slice A1_4 l1_4.length c1_4] 50 (0, 0)) (by (with_reducible repeat (first | refine blk_drewN ?_ _ | refine blk_drew ?_ | refine blk_alloc ?_ _)); exact HX2.out) hb); have n7_ := Aside0.mk (below_step (by repeat (first | (with_reducible first | exact HB.out | apply below_alloc | apply pw_below_drewN | apply below_drew1) | exact HB.out)) hb); have C78 : Aside0 (w4.heap.size ≤ w5.heap.size) := ⟨by have h_ := hb.size; (try simp at h_); omega⟩; have CCn_ := Aside0.mk (And.intro CC.out C78.out); clear CC; have CC := CCn_; clear CCn_; clear HO37; clear HO39; clear HO55; clear HO57; clear HX1; clear HX2; clear HB; clear hl59; clear hx60; clear hx61; clear hx62; clear hx63; clear hx64; clear hl65; clear hx66; clear hx67; clear hx68; clear hx69; clear hx70; have HO37 := n1_; clear n1_; have HO39 := n2_; clear n2_; have HO55 := n3_; clear n3_; have HO57 := n4_; clear n4_; have HX1 := n5_; clear n5_; have HX2 := n6_; clear n6_; have HB := n7_; clear n7_; have HO79 := Aside0.mk (Kd.R_lower (base' := w.heap.size) (Kd.R_mono (Kd.R_bound (Kd.R_tight rfl ho0_)) (ok' := fun k_ => (w4.heap.size ≤ k_ ∧ k_ < w5.heap.size) ∧ some k_ = (v100_ : Value).ownBlock) (fun k_ hk_ => ⟨⟨by have h_ := hk_.2.1; (try simp at h_); omega, hk_.2.2.1⟩, hk_.1⟩)) (by have := CC.out; first | omega | (simp; done) | (simp; omega))); obtain ⟨Az80, cz80, ez80⟩ := Kd.R_slice HO79.out; subst ez80; have HO81 := Aside0.mk (Kd.S_lower (base' := w.heap.size) (Kd.S_mono (Kd.S_bound ho1_) (ok' := fun k_ => (w4.heap.size ≤ k_ ∧ k_ < w5.heap.size) ∧ some k_ ≠ (.slice Az80 r72.length cz80 : Value).ownBlock) (fun k_ hk_ => ⟨⟨by have h_ := hk_.2.1; (try simp at h_); omega, hk_.2.2.1⟩, hk_.1⟩)) (by have := CC.out; first | omega | (simp; done) | (simp; omega))); obtain ⟨Az82, cz82, ez82⟩ := Kd.S_slice HO81.out; subst ez82; (try clear hb); (try clear ho0_); (try clear ho1_); have hl83 : w.heap.size < w5.heap.size := blk_lt HX1.out; obtain ⟨hx84, hx85, hx86, hx87, hx88, _⟩ := box5 HX1.out; have hl89 : w.heap.size + 1 < w5.heap.size := blk_lt HX2.out; obtain ⟨hx90, hx91, hx92, hx93, hx94, _⟩ := box5 HX2.out))
  all_goals (go_wp2_with fail; go_meet; first | (have hq_ := hz_.out; clear hq_; exact ⟨_, _, _, _, _, rfl, rfl, ⟨Kd.R_mono (Kd.R_set (Kd.R_set (Kd.R_set (Kd.R_set (Kd.R_set (HO79.out) (hz_.out) (by decide) 0 _) (blk_set (hz_.out) 0 _) (by decide) 1 _) (blk_set (blk_set (hz_.out) 0 _) 1 _) (by decide) 2 _) (blk_set (blk_set (blk_set (hz_.out) 0 _) 1 _) 2 _) (by decide) 3 _) (blk_set (blk_set (blk_set (blk_set (hz_.out) 0 _) 1 _) 2 _) 3 _) (by decide) 4 _) (fun k_ hk0_ => have hk_ := hk0_.1; ⟨by have := CC.out; have h1_ := hk_.1; omega, by rw [size_set, size_set, size_set, size_set, size_set]; exact hk_.2⟩)⟩, ⟨Kd.S_mono (Kd.S_set (Kd.S_set (Kd.S_set (Kd.S_set (Kd.S_set (HO81.out) (hz_.out) (by decide) 0 _) (blk_set (hz_.out) 0 _) (by decide) 1 _) (blk_set (blk_set (hz_.out) 0 _) 1 _) (by decide) 2 _) (blk_set (blk_set (blk_set (hz_.out) 0 _) 1 _) 2 _) (by decide) 3 _) (blk_set (blk_set (blk_set (blk_set (hz_.out) 0 _) 1 _) 2 _) 3 _) (by decide) 4 _) (fun k_ hk0_ => have hk_ := hk0_.1; ⟨by have := CC.out; have h1_ := hk_.1; omega, by rw [size_set, size_set, size_set, size_set, size_set]; exact hk_.2⟩)⟩, ⟨blk_put (blk_put (blk_put (blk_put (blk_put (hz_.out) 0 _ rfl) 1 _ rfl) 2 _ rfl) 3 _ rfl) 4 _ rfl⟩, ⟨blk_far (p := ⟨_, 4, none⟩) (blk_far (p := ⟨_, 3, none⟩) (blk_far (p := ⟨_, 2, none⟩) (blk_far (p := ⟨_, 1, none⟩) (blk_far (p := ⟨_, 0, none⟩) (HX1.out) (by have := CC.out; dsimp only; omega) _) (by have := CC.out; dsimp only; omega) _) (by have := CC.out; dsimp only; omega) _) (by have := CC.out; dsimp only; omega) _) (by have := CC.out; dsimp only; omega) _⟩, ⟨blk_far (p := ⟨_, 4, none⟩) (blk_far (p := ⟨_, 3, none⟩) (blk_far (p := ⟨_, 2, none⟩) (blk_far (p := ⟨_, 1, none⟩) (blk_far (p := ⟨_, 0, none⟩) (HX2.out) (by have := CC.out; dsimp only; omega) _) (by have := CC.out; dsimp only; omega) _) (by have := CC.out; dsimp only; omega) _) (by have := CC.out; dsimp only; omega) _) (by have := CC.out; dsimp only; omega) _⟩, ⟨below_set (below_set (below_set (below_set (below_set (HB.out) (by have := CC.out; omega)) (by have := CC.out; omega)) (by have := CC.out; omega)) (by have := CC.out; omega)) (by have := CC.out; omega)⟩, ⟨by rw [size_set, size_set, size_set, size_set, size_set]; have := CC.out; omega⟩⟩) | exact ⟨_, _, _, _, _, rfl, rfl, ⟨Kd.R_mono (Kd.R_alloc HO79.out _) (fun k_ hk0_ => have hk_ := hk0_.1; ⟨by have := CC.out; have h1_ := hk_.1; omega, lt_alloc hk_.2⟩)⟩, ⟨Kd.S_mono (Kd.S_alloc HO81.out _) (fun k_ hk0_ => have hk_ := hk0_.1; ⟨by have := CC.out; have h1_ := hk_.1; omega, lt_alloc hk_.2⟩)⟩, ⟨blk_new _ _⟩, ⟨blk_alloc HX1.out _⟩, ⟨blk_alloc HX2.out _⟩, ⟨below_alloc HB.out _⟩, ⟨le_alloc (by have := CC.out; omega)⟩⟩)
 case rest =>
 (try clear hl22)
 (try clear hx23)
 (try clear hx24)
 (try clear hx25)
 (try clear hx26)
 (try clear hx27)
 (try clear hl28)
 (try clear hx29)
 (try clear hx30)
 (try clear hx31)
 (try clear hx32)
 (try clear hx33)
 (try clear HX1)
 (try clear HX2)
 (try clear HB)
 obtain ⟨gC96, Az80, cz80, Az82, cz82, rfl, rfl, HO79, HO81, HX95, HX1, HX2, HB, C97⟩ := hcut
 rename World => w6
 have C98 : Aside0 (gC96 + 1 ≤ w6.heap.size) := ⟨blk_lt HX95.out⟩
 have CCn_ := Aside0.mk (And.intro CC.out C97.out)
 clear CC
 have CC := CCn_
 clear CCn_
 have CCn_ := Aside0.mk (And.intro CC.out C98.out)
 clear CC
 have CC := CCn_
 clear CCn_
 have hl99 : w.heap.size < w6.heap.size := blk_lt HX1.out
 obtain ⟨hx100, hx101, hx102, hx103, hx104, _⟩ := box5 HX1.out
 have hl105 : w.heap.size + 1 < w6.heap.size := blk_lt HX2.out
 obtain ⟨hx106, hx107, hx108, hx109, hx110, _⟩ := box5 HX2.out
 have hl111 : gC96 < w6.heap.size := blk_lt HX95.out
 obtain ⟨hx112, hx113, hx114, hx115, hx116, _⟩ := box5 HX95.out
 go_wp2_with (first | ((with_reducible refine gate_callee (f := 41) rfl ?_); refine goesL_ (some 36) rfl rfl Try.func41 (by kernel_rfl) rfl #[.agg #[.int .i64 a0_0, .slice A0_1 l0_1.length c0_1, .int .i64 a0_2, .int .i64 a0_3, .slice A0_4 l0_4.length c0_4]] rfl (by (try simp only [List.map_toArray, List.map_cons, List.map_nil]); first | done | rfl | (simp only [List.length_drop, List.length_take]; rfl)) ?_; (with_reducible refine (laws_toScheme.calls k a0_0 _ _ l0_1 a0_2 a0_3 _ _ l0_4 a0_0 l0_1 a0_2 a0_3 l0_4 _ ?side1 ?side2 ?side3 ?side4 A117.out).mono ?_); (case side1 => exact Kd.C_below HR0_1.out HB.out); (case side2 => exact HC0_1.out); (case side3 => exact Kd.C_below HR0_4.out HB.out); (case side4 => exact HC0_4.out); rintro e w7 ⟨v100_, v101_, rfl, ho0_, ho1_, hb⟩; refine ⟨_, rfl, ?_⟩; have n1_ := Aside0.mk (Kd.R_below HO79.out hb); have n2_ := Aside0.mk (Kd.S_below HO81.out hb); have n3_ := Aside0.mk (blk_below HX1.out hb); have n4_ := Aside0.mk (blk_below HX2.out hb); have n5_ := Aside0.mk (blk_below HX95.out hb); have n6_ := Aside0.mk (below_step HB.out hb); have C118 : Aside0 (w6.heap.size ≤ w7.heap.size) := ⟨by have h_ := hb.size; (try simp at h_); omega⟩; have CCn_ := Aside0.mk (And.intro CC.out C118.out); clear CC; have CC := CCn_; clear CCn_; clear HO79; clear HO81; clear HX1; clear HX2; clear HX95; clear HB; clear hl99; clear hx100; clear hx101; clear hx102; clear hx103; clear hx104; clear hl105; clear hx106; clear hx107; clear hx108; clear hx109; clear hx110; clear hl111; clear hx112; clear hx113; clear hx114; clear hx115; clear hx116; have HO79 := n1_; clear n1_; have HO81 := n2_; clear n2_; have HX1 := n3_; clear n3_; have HX2 := n4_; clear n4_; have HX95 := n5_; clear n5_; have HB := n6_; clear n6_; have HO119 := Aside0.mk (Kd.R_lower (base' := w.heap.size) (Kd.R_mono (Kd.R_bound (Kd.R_tight rfl ho0_)) (ok' := fun k_ => (w6.heap.size ≤ k_ ∧ k_ < w7.heap.size) ∧ some k_ = (v100_ : Value).ownBlock) (fun k_ hk_ => ⟨⟨by have h_ := hk_.2.1; (try simp at h_); omega, hk_.2.2.1⟩, hk_.1⟩)) (by have := CC.out; first | omega | (simp; done) | (simp; omega))); obtain ⟨Az120, cz120, ez120⟩ := Kd.R_slice HO119.out; subst ez120; have HO121 := Aside0.mk (Kd.S_lower (base' := w.heap.size) (Kd.S_mono (Kd.S_bound ho1_) (ok' := fun k_ => (w6.heap.size ≤ k_ ∧ k_ < w7.heap.size) ∧ some k_ ≠ (.slice Az120 l0_1.length cz120 : Value).ownBlock) (fun k_ hk_ => ⟨⟨by have h_ := hk_.2.1; (try simp at h_); omega, hk_.2.2.1⟩, hk_.1⟩)) (by have := CC.out; first | omega | (simp; done) | (simp; omega))); obtain ⟨Az122, cz122, ez122⟩ := Kd.S_slice HO121.out; subst ez122; (try clear hb); (try clear ho0_); (try clear ho1_); have hl123 : w.heap.size < w7.heap.size := blk_lt HX1.out; obtain ⟨hx124, hx125, hx126, hx127, hx128, _⟩ := box5 HX1.out; have hl129 : w.heap.size + 1 < w7.heap.size := blk_lt HX2.out; obtain ⟨hx130, hx131, hx132, hx133, hx134, _⟩ := box5 HX2.out; have hl135 : gC96 < w7.heap.size := blk_lt HX95.out; obtain ⟨hx136, hx137, hx138, hx139, hx140, _⟩ := box5 HX95.out) | ((with_reducible refine gate_callee (f := 41) rfl ?_); refine goesL_ (some 38) rfl rfl Try.func41 (by kernel_rfl) rfl #[.agg #[.int .i64 a1_0, .slice A1_1 l1_1.length c1_1, .int .i64 a1_2, .int .i64 a1_3, .slice A1_4 l1_4.length c1_4]] rfl (by (try simp only [List.map_toArray, List.map_cons, List.map_nil]); first | done | rfl | (simp only [List.length_drop, List.length_take]; rfl)) ?_; (with_reducible refine (laws_toScheme.calls k a1_0 _ _ l1_1 a1_2 a1_3 _ _ l1_4 a1_0 l1_1 a1_2 a1_3 l1_4 _ ?side1 ?side2 ?side3 ?side4 A142.out).mono ?_); (case side1 => exact Kd.C_below HR1_1.out (by repeat (first | (with_reducible first | exact HB.out | apply below_alloc | apply pw_below_drewN | apply below_drew1) | exact HB.out))); (case side2 => exact HC1_1.out); (case side3 => exact Kd.C_below HR1_4.out (by repeat (first | (with_reducible first | exact HB.out | apply below_alloc | apply pw_below_drewN | apply below_drew1) | exact HB.out))); (case side4 => exact HC1_4.out); rintro e w8 ⟨v100_, v101_, rfl, ho0_, ho1_, hb⟩; refine ⟨_, rfl, ?_⟩; have n1_ := Aside0.mk (Kd.R_below (by (with_reducible repeat (first | apply Kd.R_alloc | apply Kd.R_drewN | apply Kd.R_drew)); exact HO79.out) hb); have n2_ := Aside0.mk (Kd.S_below (by (with_reducible repeat (first | apply Kd.S_alloc | apply Kd.S_drewN | apply Kd.S_drew)); exact HO81.out) hb); have n3_ := Aside0.mk (Kd.R_below (by (with_reducible repeat (first | apply Kd.R_alloc | apply Kd.R_drewN | apply Kd.R_drew)); exact HO119.out) hb); have n4_ := Aside0.mk (Kd.S_below (by (with_reducible repeat (first | apply Kd.S_alloc | apply Kd.S_drewN | apply Kd.S_drew)); exact HO121.out) hb); have n5_ := Aside0.mk (blk_below (g := w.heap.size) (o := .cells #[.int .i64 a0_0, .slice A0_1 l0_1.length c0_1, .int .i64 a0_2, .int .i64 a0_3, .slice A0_4 l0_4.length c0_4] 50 (0, 0)) (by (with_reducible repeat (first | refine blk_drewN ?_ _ | refine blk_drew ?_ | refine blk_alloc ?_ _)); exact HX1.out) hb); have n6_ := Aside0.mk (blk_below (g := w.heap.size + 1) (o := .cells #[.int .i64 a1_0, .slice A1_1 l1_1.length c1_1, .int .i64 a1_2, .int .i64 a1_3, .slice A1_4 l1_4.length c1_4] 50 (0, 0)) (by (with_reducible repeat (first | refine blk_drewN ?_ _ | refine blk_drew ?_ | refine blk_alloc ?_ _)); exact HX2.out) hb); have n7_ := Aside0.mk (blk_below (g := gC96) (o := .cells #[.int .i64 r71, .slice Az80 r72.length cz80, .int .i64 r73, .int .i64 r74, .slice Az82 r75.length cz82] 53 (0, 0)) (by (with_reducible repeat (first | refine blk_drewN ?_ _ | refine blk_drew ?_ | refine blk_alloc ?_ _)); exact HX95.out) hb); have n8_ := Aside0.mk (blk_below (g := w7.heap.size) (o := .cells #[.int .i64 a0_0, .slice Az120 l0_1.length cz120, .int .i64 a0_2, .int .i64 a0_3, .slice Az122 l0_4.length cz122] 53 (0, 0)) (by repeat (first | exact blk_new_at (by simp) | (with_reducible refine blk_drewN ?_ _) | (with_reducible refine blk_drew ?_) | (with_reducible refine blk_alloc ?_ _))) hb); have n9_ := Aside0.mk (below_step (by repeat (first | (with_reducible first | exact HB.out | apply below_alloc | apply pw_below_drewN | apply below_drew1) | exact HB.out)) hb); have C143 : Aside0 (w7.heap.size + 1 ≤ w8.heap.size) := ⟨by have h_ := hb.size; (try simp at h_); omega⟩; have CCn_ := Aside0.mk (And.intro CC.out C143.out); clear CC; have CC := CCn_; clear CCn_; clear HO79; clear HO81; clear HO119; clear HO121; clear HX1; clear HX2; clear HX95; clear HB; clear hl123; clear hx124; clear hx125; clear hx126; clear hx127; clear hx128; clear hl129; clear hx130; clear hx131; clear hx132; clear hx133; clear hx134; clear hl135; clear hx136; clear hx137; clear hx138; clear hx139; clear hx140; have HO79 := n1_; clear n1_; have HO81 := n2_; clear n2_; have HO119 := n3_; clear n3_; have HO121 := n4_; clear n4_; have HX1 := n5_; clear n5_; have HX2 := n6_; clear n6_; have HX95 := n7_; clear n7_; have HX141 := n8_; clear n8_; have HB := n9_; clear n9_; have HO144 := Aside0.mk (Kd.R_lower (base' := w.heap.size) (Kd.R_mono (Kd.R_bound (Kd.R_tight rfl ho0_)) (ok' := fun k_ => (w7.heap.size + 1 ≤ k_ ∧ k_ < w8.heap.size) ∧ some k_ = (v100_ : Value).ownBlock) (fun k_ hk_ => ⟨⟨by have h_ := hk_.2.1; (try simp at h_); omega, hk_.2.2.1⟩, hk_.1⟩)) (by have := CC.out; first | omega | (simp; done) | (simp; omega))); obtain ⟨Az145, cz145, ez145⟩ := Kd.R_slice HO144.out; subst ez145; have HO146 := Aside0.mk (Kd.S_lower (base' := w.heap.size) (Kd.S_mono (Kd.S_bound ho1_) (ok' := fun k_ => (w7.heap.size + 1 ≤ k_ ∧ k_ < w8.heap.size) ∧ some k_ ≠ (.slice Az145 l1_1.length cz145 : Value).ownBlock) (fun k_ hk_ => ⟨⟨by have h_ := hk_.2.1; (try simp at h_); omega, hk_.2.2.1⟩, hk_.1⟩)) (by have := CC.out; first | omega | (simp; done) | (simp; omega))); obtain ⟨Az147, cz147, ez147⟩ := Kd.S_slice HO146.out; subst ez147; (try clear hb); (try clear ho0_); (try clear ho1_); have hl148 : w.heap.size < w8.heap.size := blk_lt HX1.out; obtain ⟨hx149, hx150, hx151, hx152, hx153, _⟩ := box5 HX1.out; have hl154 : w.heap.size + 1 < w8.heap.size := blk_lt HX2.out; obtain ⟨hx155, hx156, hx157, hx158, hx159, _⟩ := box5 HX2.out; have hl160 : gC96 < w8.heap.size := blk_lt HX95.out; obtain ⟨hx161, hx162, hx163, hx164, hx165, _⟩ := box5 HX95.out; have hl166 : w7.heap.size < w8.heap.size := blk_lt HX141.out; obtain ⟨hx167, hx168, hx169, hx170, hx171, _⟩ := box5 HX141.out) | ((with_reducible refine gate_callee (f := 42) rfl ?_); refine goesL_ (some 42) rfl rfl Try.func42 (by kernel_rfl) rfl #[.agg #[.int .i64 a0_0, .slice Az120 l0_1.length cz120, .int .i64 a0_2, .int .i64 a0_3, .slice Az122 l0_4.length cz122], .agg #[.int .i64 a1_0, .slice Az145 l1_1.length cz145, .int .i64 a1_2, .int .i64 a1_3, .slice Az147 l1_4.length cz147]] rfl (by (try simp only [List.map_toArray, List.map_cons, List.map_nil]); first | done | rfl | (simp only [List.length_drop, List.length_take]; rfl)) ?_; (with_reducible refine (impl_EitherScheme.calls k a0_0 _ _ l0_1 a0_2 a0_3 _ _ l0_4 a1_0 _ _ l1_1 a1_2 a1_3 _ _ l1_4 r71 r72 r73 r74 r75 r76 _ ?side1 ?side2 ?side3 ?side4 ?side5 ?side6 ?side7 ?side8 A173.out).mono ?_); (case side1 => exact (Kd.R_reads' (n := l0_1.length) (A := Az120) (c := cz120) (by (with_reducible repeat (first | apply Kd.R_alloc | apply Kd.R_drewN | apply Kd.R_drew)); exact HO119.out)).2.2); (case side2 => exact (Kd.R_reads' (n := l0_1.length) (A := Az120) (c := cz120) HO119.out).2.1); (case side3 => exact (Kd.S_reads' (n := l0_4.length) (A := Az122) (c := cz122) (by (with_reducible repeat (first | apply Kd.S_alloc | apply Kd.S_drewN | apply Kd.S_drew)); exact HO121.out)).2.2); (case side4 => exact (Kd.S_reads' (n := l0_4.length) (A := Az122) (c := cz122) HO121.out).2.1); (case side5 => exact (Kd.R_reads' (n := l1_1.length) (A := Az145) (c := cz145) (by (with_reducible repeat (first | apply Kd.R_alloc | apply Kd.R_drewN | apply Kd.R_drew)); exact HO144.out)).2.2); (case side6 => exact (Kd.R_reads' (n := l1_1.length) (A := Az145) (c := cz145) HO144.out).2.1); (case side7 => exact (Kd.S_reads' (n := l1_4.length) (A := Az147) (c := cz147) (by (with_reducible repeat (first | apply Kd.S_alloc | apply Kd.S_drewN | apply Kd.S_drew)); exact HO146.out)).2.2); (case side8 => exact (Kd.S_reads' (n := l1_4.length) (A := Az147) (c := cz147) HO146.out).2.1); rintro e w9 ⟨v100_, v101_, rfl, ho0_, ho1_, hb⟩; refine ⟨_, rfl, ?_⟩; have n1_ := Aside0.mk (Kd.R_below (by (with_reducible repeat (first | apply Kd.R_alloc | apply Kd.R_drewN | apply Kd.R_drew)); exact HO79.out) hb); have n2_ := Aside0.mk (Kd.S_below (by (with_reducible repeat (first | apply Kd.S_alloc | apply Kd.S_drewN | apply Kd.S_drew)); exact HO81.out) hb); have n3_ := Aside0.mk (Kd.R_below (by (with_reducible repeat (first | apply Kd.R_alloc | apply Kd.R_drewN | apply Kd.R_drew)); exact HO119.out) hb); have n4_ := Aside0.mk (Kd.S_below (by (with_reducible repeat (first | apply Kd.S_alloc | apply Kd.S_drewN | apply Kd.S_drew)); exact HO121.out) hb); have n5_ := Aside0.mk (Kd.R_below (by (with_reducible repeat (first | apply Kd.R_alloc | apply Kd.R_drewN | apply Kd.R_drew)); exact HO144.out) hb); have n6_ := Aside0.mk (Kd.S_below (by (with_reducible repeat (first | apply Kd.S_alloc | apply Kd.S_drewN | apply Kd.S_drew)); exact HO146.out) hb); have n7_ := Aside0.mk (blk_below (g := w.heap.size) (o := .cells #[.int .i64 a0_0, .slice A0_1 l0_1.length c0_1, .int .i64 a0_2, .int .i64 a0_3, .slice A0_4 l0_4.length c0_4] 50 (0, 0)) (by (with_reducible repeat (first | refine blk_drewN ?_ _ | refine blk_drew ?_ | refine blk_alloc ?_ _)); exact HX1.out) hb); have n8_ := Aside0.mk (blk_below (g := w.heap.size + 1) (o := .cells #[.int .i64 a1_0, .slice A1_1 l1_1.length c1_1, .int .i64 a1_2, .int .i64 a1_3, .slice A1_4 l1_4.length c1_4] 50 (0, 0)) (by (with_reducible repeat (first | refine blk_drewN ?_ _ | refine blk_drew ?_ | refine blk_alloc ?_ _)); exact HX2.out) hb); have n9_ := Aside0.mk (blk_below (g := gC96) (o := .cells #[.int .i64 r71, .slice Az80 r72.length cz80, .int .i64 r73, .int .i64 r74, .slice Az82 r75.length cz82] 53 (0, 0)) (by (with_reducible repeat (first | refine blk_drewN ?_ _ | refine blk_drew ?_ | refine blk_alloc ?_ _)); exact HX95.out) hb); have n10_ := Aside0.mk (blk_below (g := w7.heap.size) (o := .cells #[.int .i64 a0_0, .slice Az120 l0_1.length cz120, .int .i64 a0_2, .int .i64 a0_3, .slice Az122 l0_4.length cz122] 53 (0, 0)) (by (with_reducible repeat (first | refine blk_drewN ?_ _ | refine blk_drew ?_ | refine blk_alloc ?_ _)); exact HX141.out) hb); have n11_ := Aside0.mk (blk_below (g := w8.heap.size) (o := .cells #[.int .i64 a1_0, .slice Az145 l1_1.length cz145, .int .i64 a1_2, .int .i64 a1_3, .slice Az147 l1_4.length cz147] 53 (0, 0)) (by repeat (first | exact blk_new_at (by simp) | (with_reducible refine blk_drewN ?_ _) | (with_reducible refine blk_drew ?_) | (with_reducible refine blk_alloc ?_ _))) hb); have n12_ := Aside0.mk (below_step (by repeat (first | (with_reducible first | exact HB.out | apply below_alloc | apply pw_below_drewN | apply below_drew1) | exact HB.out)) hb); have C174 : Aside0 (w8.heap.size + 1 ≤ w9.heap.size) := ⟨by have h_ := hb.size; (try simp at h_); omega⟩; have CCn_ := Aside0.mk (And.intro CC.out C174.out); clear CC; have CC := CCn_; clear CCn_; clear HO79; clear HO81; clear HO119; clear HO121; clear HO144; clear HO146; clear HX1; clear HX2; clear HX95; clear HX141; clear HB; clear hl148; clear hx149; clear hx150; clear hx151; clear hx152; clear hx153; clear hl154; clear hx155; clear hx156; clear hx157; clear hx158; clear hx159; clear hl160; clear hx161; clear hx162; clear hx163; clear hx164; clear hx165; clear hl166; clear hx167; clear hx168; clear hx169; clear hx170; clear hx171; have HO79 := n1_; clear n1_; have HO81 := n2_; clear n2_; have HO119 := n3_; clear n3_; have HO121 := n4_; clear n4_; have HO144 := n5_; clear n5_; have HO146 := n6_; clear n6_; have HX1 := n7_; clear n7_; have HX2 := n8_; clear n8_; have HX95 := n9_; clear n9_; have HX141 := n10_; clear n10_; have HX172 := n11_; clear n11_; have HB := n12_; clear n12_; have HO175 := Aside0.mk (Kd.R_lower (base' := w.heap.size) (Kd.R_mono (Kd.R_bound (Kd.R_tight rfl ho0_)) (ok' := fun k_ => (w8.heap.size + 1 ≤ k_ ∧ k_ < w9.heap.size) ∧ some k_ = (v100_ : Value).ownBlock) (fun k_ hk_ => ⟨⟨by have h_ := hk_.2.1; (try simp at h_); omega, hk_.2.2.1⟩, hk_.1⟩)) (by have := CC.out; first | omega | (simp; done) | (simp; omega))); obtain ⟨Az176, cz176, ez176⟩ := Kd.R_slice HO175.out; subst ez176; have HO177 := Aside0.mk (Kd.S_lower (base' := w.heap.size) (Kd.S_mono (Kd.S_bound ho1_) (ok' := fun k_ => (w8.heap.size + 1 ≤ k_ ∧ k_ < w9.heap.size) ∧ some k_ ≠ (.slice Az176 r72.length cz176 : Value).ownBlock) (fun k_ hk_ => ⟨⟨by have h_ := hk_.2.1; (try simp at h_); omega, hk_.2.2.1⟩, hk_.1⟩)) (by have := CC.out; first | omega | (simp; done) | (simp; omega))); obtain ⟨Az178, cz178, ez178⟩ := Kd.S_slice HO177.out; subst ez178; (try clear hb); (try clear ho0_); (try clear ho1_); have hl179 : w.heap.size < w9.heap.size := blk_lt HX1.out; obtain ⟨hx180, hx181, hx182, hx183, hx184, _⟩ := box5 HX1.out; have hl185 : w.heap.size + 1 < w9.heap.size := blk_lt HX2.out; obtain ⟨hx186, hx187, hx188, hx189, hx190, _⟩ := box5 HX2.out; have hl191 : gC96 < w9.heap.size := blk_lt HX95.out; obtain ⟨hx192, hx193, hx194, hx195, hx196, _⟩ := box5 HX95.out; have hl197 : w7.heap.size < w9.heap.size := blk_lt HX141.out; obtain ⟨hx198, hx199, hx200, hx201, hx202, _⟩ := box5 HX141.out; have hl203 : w8.heap.size < w9.heap.size := blk_lt HX172.out; obtain ⟨hx204, hx205, hx206, hx207, hx208, _⟩ := box5 HX172.out) | ((with_reducible refine gate_callee (f := 43) rfl ?_); refine goesL_ (some 47) rfl rfl Try.func43 (by kernel_rfl) rfl #[.agg #[.int .i64 r71, .slice Az176 r72.length cz176, .int .i64 r73, .int .i64 r74, .slice Az178 r75.length cz178], .agg #[.int .i64 r71, .slice Az80 r72.length cz80, .int .i64 r73, .int .i64 r74, .slice Az82 r75.length cz82]] rfl (by (try simp only [List.map_toArray, List.map_cons, List.map_nil]); first | done | rfl | (simp only [List.length_drop, List.length_take]; rfl)) ?_; (with_reducible refine (laws_eqScheme.calls k r71 _ _ r72 r73 r74 _ _ r75 r71 _ _ r72 r73 r74 _ _ r75 true _ ?side1 ?side2 ?side3 ?side4 ?side5 ?side6 ?side7 ?side8 A210.out).mono ?_); (case side1 => exact (Kd.R_reads' (n := r72.length) (A := Az176) (c := cz176) (by (with_reducible repeat (first | apply Kd.R_alloc | apply Kd.R_drewN | apply Kd.R_drew)); exact HO175.out)).2.2); (case side2 => exact (Kd.R_reads' (n := r72.length) (A := Az176) (c := cz176) HO175.out).2.1); (case side3 => exact (Kd.S_reads' (n := r75.length) (A := Az178) (c := cz178) (by (with_reducible repeat (first | apply Kd.S_alloc | apply Kd.S_drewN | apply Kd.S_drew)); exact HO177.out)).2.2); (case side4 => exact (Kd.S_reads' (n := r75.length) (A := Az178) (c := cz178) HO177.out).2.1); (case side5 => exact (Kd.R_reads' (n := r72.length) (A := Az80) (c := cz80) (by (with_reducible repeat (first | apply Kd.R_alloc | apply Kd.R_drewN | apply Kd.R_drew)); exact HO79.out)).2.2); (case side6 => exact (Kd.R_reads' (n := r72.length) (A := Az80) (c := cz80) HO79.out).2.1); (case side7 => exact (Kd.S_reads' (n := r75.length) (A := Az82) (c := cz82) (by (with_reducible repeat (first | apply Kd.S_alloc | apply Kd.S_drewN | apply Kd.S_drew)); exact HO81.out)).2.2); (case side8 => exact (Kd.S_reads' (n := r75.length) (A := Az82) (c := cz82) HO81.out).2.1); rintro e w10 ⟨rfl, hb⟩; refine ⟨_, rfl, ?_⟩; have n1_ := Aside0.mk (Kd.R_below (by (with_reducible repeat (first | apply Kd.R_alloc | apply Kd.R_drewN | apply Kd.R_drew)); exact HO79.out) hb); have n2_ := Aside0.mk (Kd.S_below (by (with_reducible repeat (first | apply Kd.S_alloc | apply Kd.S_drewN | apply Kd.S_drew)); exact HO81.out) hb); have n3_ := Aside0.mk (Kd.R_below (by (with_reducible repeat (first | apply Kd.R_alloc | apply Kd.R_drewN | apply Kd.R_drew)); exact HO119.out) hb); have n4_ := Aside0.mk (Kd.S_below (by (with_reducible repeat (first | apply Kd.S_alloc | apply Kd.S_drewN | apply Kd.S_drew)); exact HO121.out) hb); have n5_ := Aside0.mk (Kd.R_below (by (with_reducible repeat (first | apply Kd.R_alloc | apply Kd.R_drewN | apply Kd.R_drew)); exact HO144.out) hb); have n6_ := Aside0.mk (Kd.S_below (by (with_reducible repeat (first | apply Kd.S_alloc | apply Kd.S_drewN | apply Kd.S_drew)); exact HO146.out) hb); have n7_ := Aside0.mk (Kd.R_below (by (with_reducible repeat (first | apply Kd.R_alloc | apply Kd.R_drewN | apply Kd.R_drew)); exact HO175.out) hb); have n8_ := Aside0.mk (Kd.S_below (by (with_reducible repeat (first | apply Kd.S_alloc | apply Kd.S_drewN | apply Kd.S_drew)); exact HO177.out) hb); have n9_ := Aside0.mk (blk_below (g := w.heap.size) (o := .cells #[.int .i64 a0_0, .slice A0_1 l0_1.length c0_1, .int .i64 a0_2, .int .i64 a0_3, .slice A0_4 l0_4.length c0_4] 50 (0, 0)) (by (with_reducible repeat (first | refine blk_drewN ?_ _ | refine blk_drew ?_ | refine blk_alloc ?_ _)); exact HX1.out) hb); have n10_ := Aside0.mk (blk_below (g := w.heap.size + 1) (o := .cells #[.int .i64 a1_0, .slice A1_1 l1_1.length c1_1, .int .i64 a1_2, .int .i64 a1_3, .slice A1_4 l1_4.length c1_4] 50 (0, 0)) (by (with_reducible repeat (first | refine blk_drewN ?_ _ | refine blk_drew ?_ | refine blk_alloc ?_ _)); exact HX2.out) hb); have n11_ := Aside0.mk (blk_below (g := gC96) (o := .cells #[.int .i64 r71, .slice Az80 r72.length cz80, .int .i64 r73, .int .i64 r74, .slice Az82 r75.length cz82] 53 (0, 0)) (by (with_reducible repeat (first | refine blk_drewN ?_ _ | refine blk_drew ?_ | refine blk_alloc ?_ _)); exact HX95.out) hb); have n12_ := Aside0.mk (blk_below (g := w7.heap.size) (o := .cells #[.int .i64 a0_0, .slice Az120 l0_1.length cz120, .int .i64 a0_2, .int .i64 a0_3, .slice Az122 l0_4.length cz122] 53 (0, 0)) (by (with_reducible repeat (first | refine blk_drewN ?_ _ | refine blk_drew ?_ | refine blk_alloc ?_ _)); exact HX141.out) hb); have n13_ := Aside0.mk (blk_below (g := w8.heap.size) (o := .cells #[.int .i64 a1_0, .slice Az145 l1_1.length cz145, .int .i64 a1_2, .int .i64 a1_3, .slice Az147 l1_4.length cz147] 53 (0, 0)) (by (with_reducible repeat (first | refine blk_drewN ?_ _ | refine blk_drew ?_ | refine blk_alloc ?_ _)); exact HX172.out) hb); have n14_ := Aside0.mk (blk_below (g := w9.heap.size) (o := .cells #[.int .i64 r71, .slice Az176 r72.length cz176, .int .i64 r73, .int .i64 r74, .slice Az178 r75.length cz178] 53 (0, 0)) (by repeat (first | exact blk_new_at (by simp) | (with_reducible refine blk_drewN ?_ _) | (with_reducible refine blk_drew ?_) | (with_reducible refine blk_alloc ?_ _))) hb); have n15_ := Aside0.mk (below_step (by repeat (first | (with_reducible first | exact HB.out | apply below_alloc | apply pw_below_drewN | apply below_drew1) | exact HB.out)) hb); have C211 : Aside0 (w9.heap.size + 1 ≤ w10.heap.size) := ⟨by have h_ := hb.size; (try simp at h_); omega⟩; have CCn_ := Aside0.mk (And.intro CC.out C211.out); clear CC; have CC := CCn_; clear CCn_; clear HO79; clear HO81; clear HO119; clear HO121; clear HO144; clear HO146; clear HO175; clear HO177; clear HX1; clear HX2; clear HX95; clear HX141; clear HX172; clear HB; clear hl179; clear hx180; clear hx181; clear hx182; clear hx183; clear hx184; clear hl185; clear hx186; clear hx187; clear hx188; clear hx189; clear hx190; clear hl191; clear hx192; clear hx193; clear hx194; clear hx195; clear hx196; clear hl197; clear hx198; clear hx199; clear hx200; clear hx201; clear hx202; clear hl203; clear hx204; clear hx205; clear hx206; clear hx207; clear hx208; have HO79 := n1_; clear n1_; have HO81 := n2_; clear n2_; have HO119 := n3_; clear n3_; have HO121 := n4_; clear n4_; have HO144 := n5_; clear n5_; have HO146 := n6_; clear n6_; have HO175 := n7_; clear n7_; have HO177 := n8_; clear n8_; have HX1 := n9_; clear n9_; have HX2 := n10_; clear n10_; have HX95 := n11_; clear n11_; have HX141 := n12_; clear n12_; have HX172 := n13_; clear n13_; have HX209 := n14_; clear n14_; have HB := n15_; clear n15_; (try clear hb); have hl212 : w.heap.size < w10.heap.size := blk_lt HX1.out; obtain ⟨hx213, hx214, hx215, hx216, hx217, _⟩ := box5 HX1.out; have hl218 : w.heap.size + 1 < w10.heap.size := blk_lt HX2.out; obtain ⟨hx219, hx220, hx221, hx222, hx223, _⟩ := box5 HX2.out; have hl224 : gC96 < w10.heap.size := blk_lt HX95.out; obtain ⟨hx225, hx226, hx227, hx228, hx229, _⟩ := box5 HX95.out; have hl230 : w7.heap.size < w10.heap.size := blk_lt HX141.out; obtain ⟨hx231, hx232, hx233, hx234, hx235, _⟩ := box5 HX141.out; have hl236 : w8.heap.size < w10.heap.size := blk_lt HX172.out; obtain ⟨hx237, hx238, hx239, hx240, hx241, _⟩ := box5 HX172.out; have hl242 : w9.heap.size < w10.heap.size := blk_lt HX209.out; obtain ⟨hx243, hx244, hx245, hx246, hx247, _⟩ := box5 HX209.out))
 go_region_held3 (fun w' => w'.cell? ⟨w7.heap.size, 0, none⟩ = some (.int .i64 a0_0) ∧ w'.cell? ⟨w7.heap.size, 1, none⟩ = some (.slice Az120 l0_1.length cz120) ∧ w'.cell? ⟨w7.heap.size, 2, none⟩ = some (.int .i64 a0_2) ∧ w'.cell? ⟨w7.heap.size, 3, none⟩ = some (.int .i64 a0_3) ∧ w'.cell? ⟨w7.heap.size, 4, none⟩ = some (.slice Az122 l0_4.length cz122) ∧ w'.cell? ⟨w.heap.size, 0, none⟩ = some (.int .i64 a0_0) ∧ w'.cell? ⟨w.heap.size, 1, none⟩ = some (.slice A0_1 l0_1.length c0_1) ∧ w'.cell? ⟨w.heap.size, 2, none⟩ = some (.int .i64 a0_2) ∧ w'.cell? ⟨w.heap.size, 3, none⟩ = some (.int .i64 a0_3) ∧ w'.cell? ⟨w.heap.size, 4, none⟩ = some (.slice A0_4 l0_4.length c0_4)) (first | ((repeat' apply And.intro) <;> assumption) | go_keep) (first | (go_at_call 41; (with_reducible refine (laws_toScheme.calls k a0_0 _ _ l0_1 a0_2 a0_3 _ _ l0_4 a0_0 l0_1 a0_2 a0_3 l0_4 _ ?side1 ?side2 ?side3 ?side4 A248.out).mono ?_); (case side1 => exact Kd.C_below HR0_1.out (by repeat (first | (with_reducible first | exact HB.out | apply below_alloc | apply pw_below_drewN | apply below_drew1) | exact HB.out))); (case side2 => exact HC0_1.out); (case side3 => exact Kd.C_below HR0_4.out (by repeat (first | (with_reducible first | exact HB.out | apply below_alloc | apply pw_below_drewN | apply below_drew1) | exact HB.out))); (case side4 => exact HC0_4.out); rintro e w11 ⟨v100_, v101_, rfl, ho0_, ho1_, hb⟩; have n1_ := Aside0.mk (Kd.R_below (by (with_reducible repeat (first | apply Kd.R_alloc | apply Kd.R_drewN | apply Kd.R_drew)); exact HO79.out) hb); have n2_ := Aside0.mk (Kd.S_below (by (with_reducible repeat (first | apply Kd.S_alloc | apply Kd.S_drewN | apply Kd.S_drew)); exact HO81.out) hb); have n3_ := Aside0.mk (Kd.R_below (by (with_reducible repeat (first | apply Kd.R_alloc | apply Kd.R_drewN | apply Kd.R_drew)); exact HO119.out) hb); have n4_ := Aside0.mk (Kd.S_below (by (with_reducible repeat (first | apply Kd.S_alloc | apply Kd.S_drewN | apply Kd.S_drew)); exact HO121.out) hb); have n5_ := Aside0.mk (Kd.R_below (by (with_reducible repeat (first | apply Kd.R_alloc | apply Kd.R_drewN | apply Kd.R_drew)); exact HO144.out) hb); have n6_ := Aside0.mk (Kd.S_below (by (with_reducible repeat (first | apply Kd.S_alloc | apply Kd.S_drewN | apply Kd.S_drew)); exact HO146.out) hb); have n7_ := Aside0.mk (Kd.R_below (by (with_reducible repeat (first | apply Kd.R_alloc | apply Kd.R_drewN | apply Kd.R_drew)); exact HO175.out) hb); have n8_ := Aside0.mk (Kd.S_below (by (with_reducible repeat (first | apply Kd.S_alloc | apply Kd.S_drewN | apply Kd.S_drew)); exact HO177.out) hb); have n9_ := Aside0.mk (blk_below (g := w.heap.size) (o := .cells #[.int .i64 a0_0, .slice A0_1 l0_1.length c0_1, .int .i64 a0_2, .int .i64 a0_3, .slice A0_4 l0_4.length c0_4] 50 (0, 0)) (by (with_reducible repeat (first | refine blk_drewN ?_ _ | refine blk_drew ?_ | refine blk_alloc ?_ _)); exact HX1.out) hb); have n10_ := Aside0.mk (blk_below (g := w.heap.size + 1) (o := .cells #[.int .i64 a1_0, .slice A1_1 l1_1.length c1_1, .int .i64 a1_2, .int .i64 a1_3, .slice A1_4 l1_4.length c1_4] 50 (0, 0)) (by (with_reducible repeat (first | refine blk_drewN ?_ _ | refine blk_drew ?_ | refine blk_alloc ?_ _)); exact HX2.out) hb); have n11_ := Aside0.mk (blk_below (g := gC96) (o := .cells #[.int .i64 r71, .slice Az80 r72.length cz80, .int .i64 r73, .int .i64 r74, .slice Az82 r75.length cz82] 53 (0, 0)) (by (with_reducible repeat (first | refine blk_drewN ?_ _ | refine blk_drew ?_ | refine blk_alloc ?_ _)); exact HX95.out) hb); have n12_ := Aside0.mk (blk_below (g := w7.heap.size) (o := .cells #[.int .i64 a0_0, .slice Az120 l0_1.length cz120, .int .i64 a0_2, .int .i64 a0_3, .slice Az122 l0_4.length cz122] 53 (0, 0)) (by (with_reducible repeat (first | refine blk_drewN ?_ _ | refine blk_drew ?_ | refine blk_alloc ?_ _)); exact HX141.out) hb); have n13_ := Aside0.mk (blk_below (g := w8.heap.size) (o := .cells #[.int .i64 a1_0, .slice Az145 l1_1.length cz145, .int .i64 a1_2, .int .i64 a1_3, .slice Az147 l1_4.length cz147] 53 (0, 0)) (by (with_reducible repeat (first | refine blk_drewN ?_ _ | refine blk_drew ?_ | refine blk_alloc ?_ _)); exact HX172.out) hb); have n14_ := Aside0.mk (blk_below (g := w9.heap.size) (o := .cells #[.int .i64 r71, .slice Az176 r72.length cz176, .int .i64 r73, .int .i64 r74, .slice Az178 r75.length cz178] 53 (0, 0)) (by (with_reducible repeat (first | refine blk_drewN ?_ _ | refine blk_drew ?_ | refine blk_alloc ?_ _)); exact HX209.out) hb); have n15_ := Aside0.mk (below_step (by repeat (first | (with_reducible first | exact HB.out | apply below_alloc | apply pw_below_drewN | apply below_drew1) | exact HB.out)) hb); have C249 : Aside0 (w10.heap.size ≤ w11.heap.size) := ⟨by have h_ := hb.size; (try simp at h_); omega⟩; have CCn_ := Aside0.mk (And.intro CC.out C249.out); clear CC; have CC := CCn_; clear CCn_; clear HO79; clear HO81; clear HO119; clear HO121; clear HO144; clear HO146; clear HO175; clear HO177; clear HX1; clear HX2; clear HX95; clear HX141; clear HX172; clear HX209; clear HB; clear hl212; clear hx213; clear hx214; clear hx215; clear hx216; clear hx217; clear hl218; clear hx219; clear hx220; clear hx221; clear hx222; clear hx223; clear hl224; clear hx225; clear hx226; clear hx227; clear hx228; clear hx229; clear hl230; clear hx231; clear hx232; clear hx233; clear hx234; clear hx235; clear hl236; clear hx237; clear hx238; clear hx239; clear hx240; clear hx241; clear hl242; clear hx243; clear hx244; clear hx245; clear hx246; clear hx247; have HO79 := n1_; clear n1_; have HO81 := n2_; clear n2_; have HO119 := n3_; clear n3_; have HO121 := n4_; clear n4_; have HO144 := n5_; clear n5_; have HO146 := n6_; clear n6_; have HO175 := n7_; clear n7_; have HO177 := n8_; clear n8_; have HX1 := n9_; clear n9_; have HX2 := n10_; clear n10_; have HX95 := n11_; clear n11_; have HX141 := n12_; clear n12_; have HX172 := n13_; clear n13_; have HX209 := n14_; clear n14_; have HB := n15_; clear n15_; have HO250 := Aside0.mk (Kd.R_lower (base' := w.heap.size) (Kd.R_mono (Kd.R_bound (Kd.R_tight rfl ho0_)) (ok' := fun k_ => (w10.heap.size ≤ k_ ∧ k_ < w11.heap.size) ∧ some k_ = (v100_ : Value).ownBlock) (fun k_ hk_ => ⟨⟨by have h_ := hk_.2.1; (try simp at h_); omega, hk_.2.2.1⟩, hk_.1⟩)) (by have := CC.out; first | omega | (simp; done) | (simp; omega))); obtain ⟨Az251, cz251, ez251⟩ := Kd.R_slice HO250.out; subst ez251; have HO252 := Aside0.mk (Kd.S_lower (base' := w.heap.size) (Kd.S_mono (Kd.S_bound ho1_) (ok' := fun k_ => (w10.heap.size ≤ k_ ∧ k_ < w11.heap.size) ∧ some k_ ≠ (.slice Az251 l0_1.length cz251 : Value).ownBlock) (fun k_ hk_ => ⟨⟨by have h_ := hk_.2.1; (try simp at h_); omega, hk_.2.2.1⟩, hk_.1⟩)) (by have := CC.out; first | omega | (simp; done) | (simp; omega))); obtain ⟨Az253, cz253, ez253⟩ := Kd.S_slice HO252.out; subst ez253; (try clear hb); (try clear ho0_); (try clear ho1_); have hl254 : w.heap.size < w11.heap.size := blk_lt HX1.out; obtain ⟨hx255, hx256, hx257, hx258, hx259, _⟩ := box5 HX1.out; have hl260 : w.heap.size + 1 < w11.heap.size := blk_lt HX2.out; obtain ⟨hx261, hx262, hx263, hx264, hx265, _⟩ := box5 HX2.out; have hl266 : gC96 < w11.heap.size := blk_lt HX95.out; obtain ⟨hx267, hx268, hx269, hx270, hx271, _⟩ := box5 HX95.out; have hl272 : w7.heap.size < w11.heap.size := blk_lt HX141.out; obtain ⟨hx273, hx274, hx275, hx276, hx277, _⟩ := box5 HX141.out; have hl278 : w8.heap.size < w11.heap.size := blk_lt HX172.out; obtain ⟨hx279, hx280, hx281, hx282, hx283, _⟩ := box5 HX172.out; have hl284 : w9.heap.size < w11.heap.size := blk_lt HX209.out; obtain ⟨hx285, hx286, hx287, hx288, hx289, _⟩ := box5 HX209.out) | (go_at_call 43; (with_reducible refine (laws_eqScheme.calls k a0_0 _ _ l0_1 a0_2 a0_3 _ _ l0_4 a0_0 _ _ l0_1 a0_2 a0_3 _ _ l0_4 true _ ?side1 ?side2 ?side3 ?side4 ?side5 ?side6 ?side7 ?side8 A290.out).mono ?_); (case side1 => exact (Kd.R_reads' (n := l0_1.length) (A := Az120) (c := cz120) (by (with_reducible repeat (first | apply Kd.R_alloc | apply Kd.R_drewN | apply Kd.R_drew)); exact HO119.out)).2.2); (case side2 => exact (Kd.R_reads' (n := l0_1.length) (A := Az120) (c := cz120) HO119.out).2.1); (case side3 => exact (Kd.S_reads' (n := l0_4.length) (A := Az122) (c := cz122) (by (with_reducible repeat (first | apply Kd.S_alloc | apply Kd.S_drewN | apply Kd.S_drew)); exact HO121.out)).2.2); (case side4 => exact (Kd.S_reads' (n := l0_4.length) (A := Az122) (c := cz122) HO121.out).2.1); (case side5 => exact (Kd.R_reads' (n := l0_1.length) (A := Az251) (c := cz251) (by (with_reducible repeat (first | apply Kd.R_alloc | apply Kd.R_drewN | apply Kd.R_drew)); exact HO250.out)).2.2); (case side6 => exact (Kd.R_reads' (n := l0_1.length) (A := Az251) (c := cz251) HO250.out).2.1); (case side7 => exact (Kd.S_reads' (n := l0_4.length) (A := Az253) (c := cz253) (by (with_reducible repeat (first | apply Kd.S_alloc | apply Kd.S_drewN | apply Kd.S_drew)); exact HO252.out)).2.2); (case side8 => exact (Kd.S_reads' (n := l0_4.length) (A := Az253) (c := cz253) HO252.out).2.1); rintro e w12 ⟨rfl, hb⟩; have n1_ := Aside0.mk (Kd.R_below (by (with_reducible repeat (first | apply Kd.R_alloc | apply Kd.R_drewN | apply Kd.R_drew)); exact HO79.out) hb); have n2_ := Aside0.mk (Kd.S_below (by (with_reducible repeat (first | apply Kd.S_alloc | apply Kd.S_drewN | apply Kd.S_drew)); exact HO81.out) hb); have n3_ := Aside0.mk (Kd.R_below (by (with_reducible repeat (first | apply Kd.R_alloc | apply Kd.R_drewN | apply Kd.R_drew)); exact HO119.out) hb); have n4_ := Aside0.mk (Kd.S_below (by (with_reducible repeat (first | apply Kd.S_alloc | apply Kd.S_drewN | apply Kd.S_drew)); exact HO121.out) hb); have n5_ := Aside0.mk (Kd.R_below (by (with_reducible repeat (first | apply Kd.R_alloc | apply Kd.R_drewN | apply Kd.R_drew)); exact HO144.out) hb); have n6_ := Aside0.mk (Kd.S_below (by (with_reducible repeat (first | apply Kd.S_alloc | apply Kd.S_drewN | apply Kd.S_drew)); exact HO146.out) hb); have n7_ := Aside0.mk (Kd.R_below (by (with_reducible repeat (first | apply Kd.R_alloc | apply Kd.R_drewN | apply Kd.R_drew)); exact HO175.out) hb); have n8_ := Aside0.mk (Kd.S_below (by (with_reducible repeat (first | apply Kd.S_alloc | apply Kd.S_drewN | apply Kd.S_drew)); exact HO177.out) hb); have n9_ := Aside0.mk (Kd.R_below (by (with_reducible repeat (first | apply Kd.R_alloc | apply Kd.R_drewN | apply Kd.R_drew)); exact HO250.out) hb); have n10_ := Aside0.mk (Kd.S_below (by (with_reducible repeat (first | apply Kd.S_alloc | apply Kd.S_drewN | apply Kd.S_drew)); exact HO252.out) hb); have n11_ := Aside0.mk (blk_below (g := w.heap.size) (o := .cells #[.int .i64 a0_0, .slice A0_1 l0_1.length c0_1, .int .i64 a0_2, .int .i64 a0_3, .slice A0_4 l0_4.length c0_4] 50 (0, 0)) (by (with_reducible repeat (first | refine blk_drewN ?_ _ | refine blk_drew ?_ | refine blk_alloc ?_ _)); exact HX1.out) hb); have n12_ := Aside0.mk (blk_below (g := w.heap.size + 1) (o := .cells #[.int .i64 a1_0, .slice A1_1 l1_1.length c1_1, .int .i64 a1_2, .int .i64 a1_3, .slice A1_4 l1_4.length c1_4] 50 (0, 0)) (by (with_reducible repeat (first | refine blk_drewN ?_ _ | refine blk_drew ?_ | refine blk_alloc ?_ _)); exact HX2.out) hb); have n13_ := Aside0.mk (blk_below (g := gC96) (o := .cells #[.int .i64 r71, .slice Az80 r72.length cz80, .int .i64 r73, .int .i64 r74, .slice Az82 r75.length cz82] 53 (0, 0)) (by (with_reducible repeat (first | refine blk_drewN ?_ _ | refine blk_drew ?_ | refine blk_alloc ?_ _)); exact HX95.out) hb); have n14_ := Aside0.mk (blk_below (g := w7.heap.size) (o := .cells #[.int .i64 a0_0, .slice Az120 l0_1.length cz120, .int .i64 a0_2, .int .i64 a0_3, .slice Az122 l0_4.length cz122] 53 (0, 0)) (by (with_reducible repeat (first | refine blk_drewN ?_ _ | refine blk_drew ?_ | refine blk_alloc ?_ _)); exact HX141.out) hb); have n15_ := Aside0.mk (blk_below (g := w8.heap.size) (o := .cells #[.int .i64 a1_0, .slice Az145 l1_1.length cz145, .int .i64 a1_2, .int .i64 a1_3, .slice Az147 l1_4.length cz147] 53 (0, 0)) (by (with_reducible repeat (first | refine blk_drewN ?_ _ | refine blk_drew ?_ | refine blk_alloc ?_ _)); exact HX172.out) hb); have n16_ := Aside0.mk (blk_below (g := w9.heap.size) (o := .cells #[.int .i64 r71, .slice Az176 r72.length cz176, .int .i64 r73, .int .i64 r74, .slice Az178 r75.length cz178] 53 (0, 0)) (by (with_reducible repeat (first | refine blk_drewN ?_ _ | refine blk_drew ?_ | refine blk_alloc ?_ _)); exact HX209.out) hb); have n17_ := Aside0.mk (below_step (by repeat (first | (with_reducible first | exact HB.out | apply below_alloc | apply pw_below_drewN | apply below_drew1) | exact HB.out)) hb); have C291 : Aside0 (w11.heap.size ≤ w12.heap.size) := ⟨by have h_ := hb.size; (try simp at h_); omega⟩; have CCn_ := Aside0.mk (And.intro CC.out C291.out); clear CC; have CC := CCn_; clear CCn_; clear HO79; clear HO81; clear HO119; clear HO121; clear HO144; clear HO146; clear HO175; clear HO177; clear HO250; clear HO252; clear HX1; clear HX2; clear HX95; clear HX141; clear HX172; clear HX209; clear HB; clear hl254; clear hx255; clear hx256; clear hx257; clear hx258; clear hx259; clear hl260; clear hx261; clear hx262; clear hx263; clear hx264; clear hx265; clear hl266; clear hx267; clear hx268; clear hx269; clear hx270; clear hx271; clear hl272; clear hx273; clear hx274; clear hx275; clear hx276; clear hx277; clear hl278; clear hx279; clear hx280; clear hx281; clear hx282; clear hx283; clear hl284; clear hx285; clear hx286; clear hx287; clear hx288; clear hx289; have HO79 := n1_; clear n1_; have HO81 := n2_; clear n2_; have HO119 := n3_; clear n3_; have HO121 := n4_; clear n4_; have HO144 := n5_; clear n5_; have HO146 := n6_; clear n6_; have HO175 := n7_; clear n7_; have HO177 := n8_; clear n8_; have HO250 := n9_; clear n9_; have HO252 := n10_; clear n10_; have HX1 := n11_; clear n11_; have HX2 := n12_; clear n12_; have HX95 := n13_; clear n13_; have HX141 := n14_; clear n14_; have HX172 := n15_; clear n15_; have HX209 := n16_; clear n16_; have HB := n17_; clear n17_; (try clear hb); have hl292 : w.heap.size < w12.heap.size := blk_lt HX1.out; obtain ⟨hx293, hx294, hx295, hx296, hx297, _⟩ := box5 HX1.out; have hl298 : w.heap.size + 1 < w12.heap.size := blk_lt HX2.out; obtain ⟨hx299, hx300, hx301, hx302, hx303, _⟩ := box5 HX2.out; have hl304 : gC96 < w12.heap.size := blk_lt HX95.out; obtain ⟨hx305, hx306, hx307, hx308, hx309, _⟩ := box5 HX95.out; have hl310 : w7.heap.size < w12.heap.size := blk_lt HX141.out; obtain ⟨hx311, hx312, hx313, hx314, hx315, _⟩ := box5 HX141.out; have hl316 : w8.heap.size < w12.heap.size := blk_lt HX172.out; obtain ⟨hx317, hx318, hx319, hx320, hx321, _⟩ := box5 HX172.out; have hl322 : w9.heap.size < w12.heap.size := blk_lt HX209.out; obtain ⟨hx323, hx324, hx325, hx326, hx327, _⟩ := box5 HX209.out))
 go_wp2
 go_region_held3 (fun w' => w'.cell? ⟨w8.heap.size, 0, none⟩ = some (.int .i64 a1_0) ∧ w'.cell? ⟨w8.heap.size, 1, none⟩ = some (.slice Az145 l1_1.length cz145) ∧ w'.cell? ⟨w8.heap.size, 2, none⟩ = some (.int .i64 a1_2) ∧ w'.cell? ⟨w8.heap.size, 3, none⟩ = some (.int .i64 a1_3) ∧ w'.cell? ⟨w8.heap.size, 4, none⟩ = some (.slice Az147 l1_4.length cz147) ∧ w'.cell? ⟨w.heap.size + 1, 0, none⟩ = some (.int .i64 a1_0) ∧ w'.cell? ⟨w.heap.size + 1, 1, none⟩ = some (.slice A1_1 l1_1.length c1_1) ∧ w'.cell? ⟨w.heap.size + 1, 2, none⟩ = some (.int .i64 a1_2) ∧ w'.cell? ⟨w.heap.size + 1, 3, none⟩ = some (.int .i64 a1_3) ∧ w'.cell? ⟨w.heap.size + 1, 4, none⟩ = some (.slice A1_4 l1_4.length c1_4)) (first | ((repeat' apply And.intro) <;> assumption) | go_keep) (first | (go_at_call 41; (with_reducible refine (laws_toScheme.calls k a1_0 _ _ l1_1 a1_2 a1_3 _ _ l1_4 a1_0 l1_1 a1_2 a1_3 l1_4 _ ?side1 ?side2 ?side3 ?side4 A328.out).mono ?_); (case side1 => exact Kd.C_below HR1_1.out (by repeat (first | (with_reducible first | exact HB.out | apply below_alloc | apply pw_below_drewN | apply below_drew1) | exact HB.out))); (case side2 => exact HC1_1.out); (case side3 => exact Kd.C_below HR1_4.out (by repeat (first | (with_reducible first | exact HB.out | apply below_alloc | apply pw_below_drewN | apply below_drew1) | exact HB.out))); (case side4 => exact HC1_4.out); rintro e w13 ⟨v100_, v101_, rfl, ho0_, ho1_, hb⟩; have n1_ := Aside0.mk (Kd.R_below (by (with_reducible repeat (first | apply Kd.R_alloc | apply Kd.R_drewN | apply Kd.R_drew)); exact HO79.out) hb); have n2_ := Aside0.mk (Kd.S_below (by (with_reducible repeat (first | apply Kd.S_alloc | apply Kd.S_drewN | apply Kd.S_drew)); exact HO81.out) hb); have n3_ := Aside0.mk (Kd.R_below (by (with_reducible repeat (first | apply Kd.R_alloc | apply Kd.R_drewN | apply Kd.R_drew)); exact HO119.out) hb); have n4_ := Aside0.mk (Kd.S_below (by (with_reducible repeat (first | apply Kd.S_alloc | apply Kd.S_drewN | apply Kd.S_drew)); exact HO121.out) hb); have n5_ := Aside0.mk (Kd.R_below (by (with_reducible repeat (first | apply Kd.R_alloc | apply Kd.R_drewN | apply Kd.R_drew)); exact HO144.out) hb); have n6_ := Aside0.mk (Kd.S_below (by (with_reducible repeat (first | apply Kd.S_alloc | apply Kd.S_drewN | apply Kd.S_drew)); exact HO146.out) hb); have n7_ := Aside0.mk (Kd.R_below (by (with_reducible repeat (first | apply Kd.R_alloc | apply Kd.R_drewN | apply Kd.R_drew)); exact HO175.out) hb); have n8_ := Aside0.mk (Kd.S_below (by (with_reducible repeat (first | apply Kd.S_alloc | apply Kd.S_drewN | apply Kd.S_drew)); exact HO177.out) hb); have n9_ := Aside0.mk (blk_below (g := w.heap.size) (o := .cells #[.int .i64 a0_0, .slice A0_1 l0_1.length c0_1, .int .i64 a0_2, .int .i64 a0_3, .slice A0_4 l0_4.length c0_4] 50 (0, 0)) (by (with_reducible repeat (first | refine blk_drewN ?_ _ | refine blk_drew ?_ | refine blk_alloc ?_ _)); exact HX1.out) hb); have n10_ := Aside0.mk (blk_below (g := w.heap.size + 1) (o := .cells #[.int .i64 a1_0, .slice A1_1 l1_1.length c1_1, .int .i64 a1_2, .int .i64 a1_3, .slice A1_4 l1_4.length c1_4] 50 (0, 0)) (by (with_reducible repeat (first | refine blk_drewN ?_ _ | refine blk_drew ?_ | refine blk_alloc ?_ _)); exact HX2.out) hb); have n11_ := Aside0.mk (blk_below (g := gC96) (o := .cells #[.int .i64 r71, .slice Az80 r72.length cz80, .int .i64 r73, .int .i64 r74, .slice Az82 r75.length cz82] 53 (0, 0)) (by (with_reducible repeat (first | refine blk_drewN ?_ _ | refine blk_drew ?_ | refine blk_alloc ?_ _)); exact HX95.out) hb); have n12_ := Aside0.mk (blk_below (g := w7.heap.size) (o := .cells #[.int .i64 a0_0, .slice Az120 l0_1.length cz120, .int .i64 a0_2, .int .i64 a0_3, .slice Az122 l0_4.length cz122] 53 (0, 0)) (by (with_reducible repeat (first | refine blk_drewN ?_ _ | refine blk_drew ?_ | refine blk_alloc ?_ _)); exact HX141.out) hb); have n13_ := Aside0.mk (blk_below (g := w8.heap.size) (o := .cells #[.int .i64 a1_0, .slice Az145 l1_1.length cz145, .int .i64 a1_2, .int .i64 a1_3, .slice Az147 l1_4.length cz147] 53 (0, 0)) (by (with_reducible repeat (first | refine blk_drewN ?_ _ | refine blk_drew ?_ | refine blk_alloc ?_ _)); exact HX172.out) hb); have n14_ := Aside0.mk (blk_below (g := w9.heap.size) (o := .cells #[.int .i64 r71, .slice Az176 r72.length cz176, .int .i64 r73, .int .i64 r74, .slice Az178 r75.length cz178] 53 (0, 0)) (by (with_reducible repeat (first | refine blk_drewN ?_ _ | refine blk_drew ?_ | refine blk_alloc ?_ _)); exact HX209.out) hb); have n15_ := Aside0.mk (below_step (by repeat (first | (with_reducible first | exact HB.out | apply below_alloc | apply pw_below_drewN | apply below_drew1) | exact HB.out)) hb); have C329 : Aside0 (w12.heap.size ≤ w13.heap.size) := ⟨by have h_ := hb.size; (try simp at h_); omega⟩; have CCn_ := Aside0.mk (And.intro CC.out C329.out); clear CC; have CC := CCn_; clear CCn_; clear HO79; clear HO81; clear HO119; clear HO121; clear HO144; clear HO146; clear HO175; clear HO177; clear HX1; clear HX2; clear HX95; clear HX141; clear HX172; clear HX209; clear HB; clear hl292; clear hx293; clear hx294; clear hx295; clear hx296; clear hx297; clear hl298; clear hx299; clear hx300; clear hx301; clear hx302; clear hx303; clear hl304; clear hx305; clear hx306; clear hx307; clear hx308; clear hx309; clear hl310; clear hx311; clear hx312; clear hx313; clear hx314; clear hx315; clear hl316; clear hx317; clear hx318; clear hx319; clear hx320; clear hx321; clear hl322; clear hx323; clear hx324; clear hx325; clear hx326; clear hx327; have HO79 := n1_; clear n1_; have HO81 := n2_; clear n2_; have HO119 := n3_; clear n3_; have HO121 := n4_; clear n4_; have HO144 := n5_; clear n5_; have HO146 := n6_; clear n6_; have HO175 := n7_; clear n7_; have HO177 := n8_; clear n8_; have HX1 := n9_; clear n9_; have HX2 := n10_; clear n10_; have HX95 := n11_; clear n11_; have HX141 := n12_; clear n12_; have HX172 := n13_; clear n13_; have HX209 := n14_; clear n14_; have HB := n15_; clear n15_; have HO330 := Aside0.mk (Kd.R_lower (base' := w.heap.size) (Kd.R_mono (Kd.R_bound (Kd.R_tight rfl ho0_)) (ok' := fun k_ => (w12.heap.size ≤ k_ ∧ k_ < w13.heap.size) ∧ some k_ = (v100_ : Value).ownBlock) (fun k_ hk_ => ⟨⟨by have h_ := hk_.2.1; (try simp at h_); omega, hk_.2.2.1⟩, hk_.1⟩)) (by have := CC.out; first | omega | (simp; done) | (simp; omega))); obtain ⟨Az331, cz331, ez331⟩ := Kd.R_slice HO330.out; subst ez331; have HO332 := Aside0.mk (Kd.S_lower (base' := w.heap.size) (Kd.S_mono (Kd.S_bound ho1_) (ok' := fun k_ => (w12.heap.size ≤ k_ ∧ k_ < w13.heap.size) ∧ some k_ ≠ (.slice Az331 l1_1.length cz331 : Value).ownBlock) (fun k_ hk_ => ⟨⟨by have h_ := hk_.2.1; (try simp at h_); omega, hk_.2.2.1⟩, hk_.1⟩)) (by have := CC.out; first | omega | (simp; done) | (simp; omega))); obtain ⟨Az333, cz333, ez333⟩ := Kd.S_slice HO332.out; subst ez333; (try clear hb); (try clear ho0_); (try clear ho1_); have hl334 : w.heap.size < w13.heap.size := blk_lt HX1.out; obtain ⟨hx335, hx336, hx337, hx338, hx339, _⟩ := box5 HX1.out; have hl340 : w.heap.size + 1 < w13.heap.size := blk_lt HX2.out; obtain ⟨hx341, hx342, hx343, hx344, hx345, _⟩ := box5 HX2.out; have hl346 : gC96 < w13.heap.size := blk_lt HX95.out; obtain ⟨hx347, hx348, hx349, hx350, hx351, _⟩ := box5 HX95.out; have hl352 : w7.heap.size < w13.heap.size := blk_lt HX141.out; obtain ⟨hx353, hx354, hx355, hx356, hx357, _⟩ := box5 HX141.out; have hl358 : w8.heap.size < w13.heap.size := blk_lt HX172.out; obtain ⟨hx359, hx360, hx361, hx362, hx363, _⟩ := box5 HX172.out; have hl364 : w9.heap.size < w13.heap.size := blk_lt HX209.out; obtain ⟨hx365, hx366, hx367, hx368, hx369, _⟩ := box5 HX209.out) | (go_at_call 43; (with_reducible refine (laws_eqScheme.calls k a1_0 _ _ l1_1 a1_2 a1_3 _ _ l1_4 a1_0 _ _ l1_1 a1_2 a1_3 _ _ l1_4 true _ ?side1 ?side2 ?side3 ?side4 ?side5 ?side6 ?side7 ?side8 A370.out).mono ?_); (case side1 => exact (Kd.R_reads' (n := l1_1.length) (A := Az145) (c := cz145) (by (with_reducible repeat (first | apply Kd.R_alloc | apply Kd.R_drewN | apply Kd.R_drew)); exact HO144.out)).2.2); (case side2 => exact (Kd.R_reads' (n := l1_1.length) (A := Az145) (c := cz145) HO144.out).2.1); (case side3 => exact (Kd.S_reads' (n := l1_4.length) (A := Az147) (c := cz147) (by (with_reducible repeat (first | apply Kd.S_alloc | apply Kd.S_drewN | apply Kd.S_drew)); exact HO146.out)).2.2); (case side4 => exact (Kd.S_reads' (n := l1_4.length) (A := Az147) (c := cz147) HO146.out).2.1); (case side5 => exact (Kd.R_reads' (n := l1_1.length) (A := Az331) (c := cz331) (by (with_reducible repeat (first | apply Kd.R_alloc | apply Kd.R_drewN | apply Kd.R_drew)); exact HO330.out)).2.2); (case side6 => exact (Kd.R_reads' (n := l1_1.length) (A := Az331) (c := cz331) HO330.out).2.1); (case side7 => exact (Kd.S_reads' (n := l1_4.length) (A := Az333) (c := cz333) (by (with_reducible repeat (first | apply Kd.S_alloc | apply Kd.S_drewN | apply Kd.S_drew)); exact HO332.out)).2.2); (case side8 => exact (Kd.S_reads' (n := l1_4.length) (A := Az333) (c := cz333) HO332.out).2.1); rintro e w14 ⟨rfl, hb⟩; have n1_ := Aside0.mk (Kd.R_below (by (with_reducible repeat (first | apply Kd.R_alloc | apply Kd.R_drewN | apply Kd.R_drew)); exact HO79.out) hb); have n2_ := Aside0.mk (Kd.S_below (by (with_reducible repeat (first | apply Kd.S_alloc | apply Kd.S_drewN | apply Kd.S_drew)); exact HO81.out) hb); have n3_ := Aside0.mk (Kd.R_below (by (with_reducible repeat (first | apply Kd.R_alloc | apply Kd.R_drewN | apply Kd.R_drew)); exact HO119.out) hb); have n4_ := Aside0.mk (Kd.S_below (by (with_reducible repeat (first | apply Kd.S_alloc | apply Kd.S_drewN | apply Kd.S_drew)); exact HO121.out) hb); have n5_ := Aside0.mk (Kd.R_below (by (with_reducible repeat (first | apply Kd.R_alloc | apply Kd.R_drewN | apply Kd.R_drew)); exact HO144.out) hb); have n6_ := Aside0.mk (Kd.S_below (by (with_reducible repeat (first | apply Kd.S_alloc | apply Kd.S_drewN | apply Kd.S_drew)); exact HO146.out) hb); have n7_ := Aside0.mk (Kd.R_below (by (with_reducible repeat (first | apply Kd.R_alloc | apply Kd.R_drewN | apply Kd.R_drew)); exact HO175.out) hb); have n8_ := Aside0.mk (Kd.S_below (by (with_reducible repeat (first | apply Kd.S_alloc | apply Kd.S_drewN | apply Kd.S_drew)); exact HO177.out) hb); have n9_ := Aside0.mk (Kd.R_below (by (with_reducible repeat (first | apply Kd.R_alloc | apply Kd.R_drewN | apply Kd.R_drew)); exact HO330.out) hb); have n10_ := Aside0.mk (Kd.S_below (by (with_reducible repeat (first | apply Kd.S_alloc | apply Kd.S_drewN | apply Kd.S_drew)); exact HO332.out) hb); have n11_ := Aside0.mk (blk_below (g := w.heap.size) (o := .cells #[.int .i64 a0_0, .slice A0_1 l0_1.length c0_1, .int .i64 a0_2, .int .i64 a0_3, .slice A0_4 l0_4.length c0_4] 50 (0, 0)) (by (with_reducible repeat (first | refine blk_drewN ?_ _ | refine blk_drew ?_ | refine blk_alloc ?_ _)); exact HX1.out) hb); have n12_ := Aside0.mk (blk_below (g := w.heap.size + 1) (o := .cells #[.int .i64 a1_0, .slice A1_1 l1_1.length c1_1, .int .i64 a1_2, .int .i64 a1_3, .slice A1_4 l1_4.length c1_4] 50 (0, 0)) (by (with_reducible repeat (first | refine blk_drewN ?_ _ | refine blk_drew ?_ | refine blk_alloc ?_ _)); exact HX2.out) hb); have n13_ := Aside0.mk (blk_below (g := gC96) (o := .cells #[.int .i64 r71, .slice Az80 r72.length cz80, .int .i64 r73, .int .i64 r74, .slice Az82 r75.length cz82] 53 (0, 0)) (by (with_reducible repeat (first | refine blk_drewN ?_ _ | refine blk_drew ?_ | refine blk_alloc ?_ _)); exact HX95.out) hb); have n14_ := Aside0.mk (blk_below (g := w7.heap.size) (o := .cells #[.int .i64 a0_0, .slice Az120 l0_1.length cz120, .int .i64 a0_2, .int .i64 a0_3, .slice Az122 l0_4.length cz122] 53 (0, 0)) (by (with_reducible repeat (first | refine blk_drewN ?_ _ | refine blk_drew ?_ | refine blk_alloc ?_ _)); exact HX141.out) hb); have n15_ := Aside0.mk (blk_below (g := w8.heap.size) (o := .cells #[.int .i64 a1_0, .slice Az145 l1_1.length cz145, .int .i64 a1_2, .int .i64 a1_3, .slice Az147 l1_4.length cz147] 53 (0, 0)) (by (with_reducible repeat (first | refine blk_drewN ?_ _ | refine blk_drew ?_ | refine blk_alloc ?_ _)); exact HX172.out) hb); have n16_ := Aside0.mk (blk_below (g := w9.heap.size) (o := .cells #[.int .i64 r71, .slice Az176 r72.length cz176, .int .i64 r73, .int .i64 r74, .slice Az178 r75.length cz178] 53 (0, 0)) (by (with_reducible repeat (first | refine blk_drewN ?_ _ | refine blk_drew ?_ | refine blk_alloc ?_ _)); exact HX209.out) hb); have n17_ := Aside0.mk (below_step (by repeat (first | (with_reducible first | exact HB.out | apply below_alloc | apply pw_below_drewN | apply below_drew1) | exact HB.out)) hb); have C371 : Aside0 (w13.heap.size ≤ w14.heap.size) := ⟨by have h_ := hb.size; (try simp at h_); omega⟩; have CCn_ := Aside0.mk (And.intro CC.out C371.out); clear CC; have CC := CCn_; clear CCn_; clear HO79; clear HO81; clear HO119; clear HO121; clear HO144; clear HO146; clear HO175; clear HO177; clear HO330; clear HO332; clear HX1; clear HX2; clear HX95; clear HX141; clear HX172; clear HX209; clear HB; clear hl334; clear hx335; clear hx336; clear hx337; clear hx338; clear hx339; clear hl340; clear hx341; clear hx342; clear hx343; clear hx344; clear hx345; clear hl346; clear hx347; clear hx348; clear hx349; clear hx350; clear hx351; clear hl352; clear hx353; clear hx354; clear hx355; clear hx356; clear hx357; clear hl358; clear hx359; clear hx360; clear hx361; clear hx362; clear hx363; clear hl364; clear hx365; clear hx366; clear hx367; clear hx368; clear hx369; have HO79 := n1_; clear n1_; have HO81 := n2_; clear n2_; have HO119 := n3_; clear n3_; have HO121 := n4_; clear n4_; have HO144 := n5_; clear n5_; have HO146 := n6_; clear n6_; have HO175 := n7_; clear n7_; have HO177 := n8_; clear n8_; have HO330 := n9_; clear n9_; have HO332 := n10_; clear n10_; have HX1 := n11_; clear n11_; have HX2 := n12_; clear n12_; have HX95 := n13_; clear n13_; have HX141 := n14_; clear n14_; have HX172 := n15_; clear n15_; have HX209 := n16_; clear n16_; have HB := n17_; clear n17_; (try clear hb); have hl372 : w.heap.size < w14.heap.size := blk_lt HX1.out; obtain ⟨hx373, hx374, hx375, hx376, hx377, _⟩ := box5 HX1.out; have hl378 : w.heap.size + 1 < w14.heap.size := blk_lt HX2.out; obtain ⟨hx379, hx380, hx381, hx382, hx383, _⟩ := box5 HX2.out; have hl384 : gC96 < w14.heap.size := blk_lt HX95.out; obtain ⟨hx385, hx386, hx387, hx388, hx389, _⟩ := box5 HX95.out; have hl390 : w7.heap.size < w14.heap.size := blk_lt HX141.out; obtain ⟨hx391, hx392, hx393, hx394, hx395, _⟩ := box5 HX141.out; have hl396 : w8.heap.size < w14.heap.size := blk_lt HX172.out; obtain ⟨hx397, hx398, hx399, hx400, hx401, _⟩ := box5 HX172.out; have hl402 : w9.heap.size < w14.heap.size := blk_lt HX209.out; obtain ⟨hx403, hx404, hx405, hx406, hx407, _⟩ := box5 HX209.out))
 go_wp2_with (first | ((with_reducible refine gate_callee (f := 44) rfl ?_); refine goesL_ (some 66) rfl rfl Try.func44 (by kernel_rfl) rfl #[.agg #[.int .i64 a0_0, .slice Az120 l0_1.length cz120, .int .i64 a0_2, .int .i64 a0_3, .slice Az122 l0_4.length cz122], .int .i64 1] rfl (by (try simp only [List.map_toArray, List.map_cons, List.map_nil]); first | done | rfl | (simp only [List.length_drop, List.length_take]; rfl)) ?_; (with_reducible refine (laws_markScheme.callsM k a0_0 (fun k_ => (w6.heap.size ≤ k_ ∧ k_ < w7.heap.size) ∧ some k_ = (.slice Az120 l0_1.length cz120 : Value).ownBlock) (.slice Az120 l0_1.length cz120) l0_1 a0_2 a0_3 (fun k_ => (w6.heap.size ≤ k_ ∧ k_ < w7.heap.size) ∧ some k_ ≠ (.slice Az120 l0_1.length cz120 : Value).ownBlock) (.slice Az122 l0_4.length cz122) l0_4 1 m408 ys409 ys410 w _ ?side1 ?side2 ?side3 ?side4 A411.out).mono ?_); (case side1 => repeat (first | (with_reducible first | exact HB.out | apply below_alloc | apply pw_below_drewN | apply below_drew1) | exact HB.out)); (case side2 => exact (by (with_reducible repeat (first | apply Kd.R_alloc | apply Kd.R_drewN | apply Kd.R_drew)); exact HO119.out)); (case side3 => exact (by (with_reducible repeat (first | apply Kd.S_alloc | apply Kd.S_drewN | apply Kd.S_drew)); exact HO121.out)); (case side4 => exact fun k_ h0_ h1_ => h1_.2 h0_.2); rintro e w15 ⟨rfl, hm0_, hm1_, hbk, hk⟩; refine ⟨_, rfl, ?_⟩; have n1_ := Aside0.mk (Kd.R_kept (by (with_reducible repeat (first | apply Kd.R_alloc | apply Kd.R_drewN | apply Kd.R_drew)); exact HO79.out) hk (fun k_ hk_ hs_ => by have := CC.out; have h1_ := hk_; have h2_ := hs_; omega)); have n2_ := Aside0.mk (Kd.S_kept (by (with_reducible repeat (first | apply Kd.S_alloc | apply Kd.S_drewN | apply Kd.S_drew)); exact HO81.out) hk (fun k_ hk_ hs_ => by have := CC.out; have h1_ := hk_; have h2_ := hs_; omega)); have n3_ := Aside0.mk (Kd.R_kept (by (with_reducible repeat (first | apply Kd.R_alloc | apply Kd.R_drewN | apply Kd.R_drew)); exact HO144.out) hk (fun k_ hk_ hs_ => by have := CC.out; have h1_ := hk_; have h2_ := hs_; omega)); have n4_ := Aside0.mk (Kd.S_kept (by (with_reducible repeat (first | apply Kd.S_alloc | apply Kd.S_drewN | apply Kd.S_drew)); exact HO146.out) hk (fun k_ hk_ hs_ => by have := CC.out; have h1_ := hk_; have h2_ := hs_; omega)); have n5_ := Aside0.mk (Kd.R_kept (by (with_reducible repeat (first | apply Kd.R_alloc | apply Kd.R_drewN | apply Kd.R_drew)); exact HO175.out) hk (fun k_ hk_ hs_ => by have := CC.out; have h1_ := hk_; have h2_ := hs_; omega)); have n6_ := Aside0.mk (Kd.S_kept (by (with_reducible repeat (first | apply Kd.S_alloc | apply Kd.S_drewN | apply Kd.S_drew)); exact HO177.out) hk (fun k_ hk_ hs_ => by have := CC.out; have h1_ := hk_; have h2_ := hs_; omega)); have n7_ := Aside0.mk (blk_kept (g := w.heap.size) (o := .cells #[.int .i64 a0_0, .slice A0_1 l0_1.length c0_1, .int .i64 a0_2, .int .i64 a0_3, .slice A0_4 l0_4.length c0_4] 50 (0, 0)) (by (with_reducible repeat (first | refine blk_drewN ?_ _ | refine blk_drew ?_ | refine blk_alloc ?_ _)); exact HX1.out) hk (fun hs_ => by have := CC.out; have h2_ := hs_; omega)); have n8_ := Aside0.mk (blk_kept (g := w.heap.size + 1) (o := .cells #[.int .i64 a1_0, .slice A1_1 l1_1.length c1_1, .int .i64 a1_2, .int .i64 a1_3, .slice A1_4 l1_4.length c1_4] 50 (0, 0)) (by (with_reducible repeat (first | refine blk_drewN ?_ _ | refine blk_drew ?_ | refine blk_alloc ?_ _)); exact HX2.out) hk (fun hs_ => by have := CC.out; have h2_ := hs_; omega)); have n9_ := Aside0.mk (blk_kept (g := gC96) (o := .cells #[.int .i64 r71, .slice Az80 r72.length cz80, .int .i64 r73, .int .i64 r74, .slice Az82 r75.length cz82] 53 (0, 0)) (by (with_reducible repeat (first | refine blk_drewN ?_ _ | refine blk_drew ?_ | refine blk_alloc ?_ _)); exact HX95.out) hk (fun hs_ => by have := CC.out; have h2_ := hs_; omega)); have n10_ := Aside0.mk (blk_kept (g := w7.heap.size) (o := .cells #[.int .i64 a0_0, .slice Az120 l0_1.length cz120, .int .i64 a0_2, .int .i64 a0_3, .slice Az122 l0_4.length cz122] 53 (0, 0)) (by (with_reducible repeat (first | refine blk_drewN ?_ _ | refine blk_drew ?_ | refine blk_alloc ?_ _)); exact HX141.out) hk (fun hs_ => by have := CC.out; have h2_ := hs_; omega)); have n11_ := Aside0.mk (blk_kept (g := w8.heap.size) (o := .cells #[.int .i64 a1_0, .slice Az145 l1_1.length cz145, .int .i64 a1_2, .int .i64 a1_3, .slice Az147 l1_4.length cz147] 53 (0, 0)) (by (with_reducible repeat (first | refine blk_drewN ?_ _ | refine blk_drew ?_ | refine blk_alloc ?_ _)); exact HX172.out) hk (fun hs_ => by have := CC.out; have h2_ := hs_; omega)); have n12_ := Aside0.mk (blk_kept (g := w9.heap.size) (o := .cells #[.int .i64 r71, .slice Az176 r72.length cz176, .int .i64 r73, .int .i64 r74, .slice Az178 r75.length cz178] 53 (0, 0)) (by (with_reducible repeat (first | refine blk_drewN ?_ _ | refine blk_drew ?_ | refine blk_alloc ?_ _)); exact HX209.out) hk (fun hs_ => by have := CC.out; have h2_ := hs_; omega)); have n13_ := Aside0.mk (hbk); have C412 : Aside0 (w14.heap.size ≤ w15.heap.size) := ⟨by have h_ := hk.1; (try simp at h_); omega⟩; have CCn_ := Aside0.mk (And.intro CC.out C412.out); clear CC; have CC := CCn_; clear CCn_; clear HO79; clear HO81; clear HO144; clear HO146; clear HO175; clear HO177; clear HX1; clear HX2; clear HX95; clear HX141; clear HX172; clear HX209; clear HB; clear hl372; clear hx373; clear hx374; clear hx375; clear hx376; clear hx377; clear hl378; clear hx379; clear hx380; clear hx381; clear hx382; clear hx383; clear hl384; clear hx385; clear hx386; clear hx387; clear hx388; clear hx389; clear hl390; clear hx391; clear hx392; clear hx393; clear hx394; clear hx395; clear hl396; clear hx397; clear hx398; clear hx399; clear hx400; clear hx401; clear hl402; clear hx403; clear hx404; clear hx405; clear hx406; clear hx407; have HO79 := n1_; clear n1_; have HO81 := n2_; clear n2_; have HO144 := n3_; clear n3_; have HO146 := n4_; clear n4_; have HO175 := n5_; clear n5_; have HO177 := n6_; clear n6_; have HX1 := n7_; clear n7_; have HX2 := n8_; clear n8_; have HX95 := n9_; clear n9_; have HX141 := n10_; clear n10_; have HX172 := n11_; clear n11_; have HX209 := n12_; clear n12_; have HB := n13_; clear n13_; clear HO119; have HO119 := Aside0.mk hm0_; clear HO121; have HO121 := Aside0.mk hm1_; (try clear hk); (try clear hbk); (try clear hm0_); (try clear hm1_); have hl413 : w.heap.size < w15.heap.size := blk_lt HX1.out; obtain ⟨hx414, hx415, hx416, hx417, hx418, _⟩ := box5 HX1.out; have hl419 : w.heap.size + 1 < w15.heap.size := blk_lt HX2.out; obtain ⟨hx420, hx421, hx422, hx423, hx424, _⟩ := box5 HX2.out; have hl425 : gC96 < w15.heap.size := blk_lt HX95.out; obtain ⟨hx426, hx427, hx428, hx429, hx430, _⟩ := box5 HX95.out; have hl431 : w7.heap.size < w15.heap.size := blk_lt HX141.out; obtain ⟨hx432, hx433, hx434, hx435, hx436, _⟩ := box5 HX141.out; have hl437 : w8.heap.size < w15.heap.size := blk_lt HX172.out; obtain ⟨hx438, hx439, hx440, hx441, hx442, _⟩ := box5 HX172.out; have hl443 : w9.heap.size < w15.heap.size := blk_lt HX209.out; obtain ⟨hx444, hx445, hx446, hx447, hx448, _⟩ := box5 HX209.out) | ((with_reducible refine gate_callee (f := 44) rfl ?_); refine goesL_ (some 69) rfl rfl Try.func44 (by kernel_rfl) rfl #[.agg #[.int .i64 a1_0, .slice Az145 l1_1.length cz145, .int .i64 a1_2, .int .i64 a1_3, .slice Az147 l1_4.length cz147], .int .i64 m408] rfl (by (try simp only [List.map_toArray, List.map_cons, List.map_nil]); first | done | rfl | (simp only [List.length_drop, List.length_take]; rfl)) ?_; (with_reducible refine (laws_markScheme.callsM k a1_0 (fun k_ => (w7.heap.size + 1 ≤ k_ ∧ k_ < w8.heap.size) ∧ some k_ = (.slice Az145 l1_1.length cz145 : Value).ownBlock) (.slice Az145 l1_1.length cz145) l1_1 a1_2 a1_3 (fun k_ => (w7.heap.size + 1 ≤ k_ ∧ k_ < w8.heap.size) ∧ some k_ ≠ (.slice Az145 l1_1.length cz145 : Value).ownBlock) (.slice Az147 l1_4.length cz147) l1_4 m408 m449 ys450 ys451 w _ ?side1 ?side2 ?side3 ?side4 A452.out).mono ?_); (case side1 => repeat (first | (with_reducible first | exact HB.out | apply below_alloc | apply pw_below_drewN | apply below_drew1) | exact HB.out)); (case side2 => exact HO144.out); (case side3 => exact HO146.out); (case side4 => exact fun k_ h0_ h1_ => h1_.2 h0_.2); rintro e w16 ⟨rfl, hm0_, hm1_, hbk, hk⟩; refine ⟨_, rfl, ?_⟩; have n1_ := Aside0.mk (Kd.R_kept HO79.out hk (fun k_ hk_ hs_ => by have := CC.out; have h1_ := hk_; have h2_ := hs_; omega)); have n2_ := Aside0.mk (Kd.S_kept HO81.out hk (fun k_ hk_ hs_ => by have := CC.out; have h1_ := hk_; have h2_ := hs_; omega)); have n3_ := Aside0.mk (Kd.R_kept HO119.out hk (fun k_ hk_ hs_ => by have := CC.out; have h1_ := hk_; have h2_ := hs_; omega)); have n4_ := Aside0.mk (Kd.S_kept HO121.out hk (fun k_ hk_ hs_ => by have := CC.out; have h1_ := hk_; have h2_ := hs_; omega)); have n5_ := Aside0.mk (Kd.R_kept HO175.out hk (fun k_ hk_ hs_ => by have := CC.out; have h1_ := hk_; have h2_ := hs_; omega)); have n6_ := Aside0.mk (Kd.S_kept HO177.out hk (fun k_ hk_ hs_ => by have := CC.out; have h1_ := hk_; have h2_ := hs_; omega)); have n7_ := Aside0.mk (blk_kept (g := w.heap.size) (o := .cells #[.int .i64 a0_0, .slice A0_1 l0_1.length c0_1, .int .i64 a0_2, .int .i64 a0_3, .slice A0_4 l0_4.length c0_4] 50 (0, 0)) HX1.out hk (fun hs_ => by have := CC.out; have h2_ := hs_; omega)); have n8_ := Aside0.mk (blk_kept (g := w.heap.size + 1) (o := .cells #[.int .i64 a1_0, .slice A1_1 l1_1.length c1_1, .int .i64 a1_2, .int .i64 a1_3, .slice A1_4 l1_4.length c1_4] 50 (0, 0)) HX2.out hk (fun hs_ => by have := CC.out; have h2_ := hs_; omega)); have n9_ := Aside0.mk (blk_kept (g := gC96) (o := .cells #[.int .i64 r71, .slice Az80 r72.length cz80, .int .i64 r73, .int .i64 r74, .slice Az82 r75.length cz82] 53 (0, 0)) HX95.out hk (fun hs_ => by have := CC.out; have h2_ := hs_; omega)); have n10_ := Aside0.mk (blk_kept (g := w7.heap.size) (o := .cells #[.int .i64 a0_0, .slice Az120 l0_1.length cz120, .int .i64 a0_2, .int .i64 a0_3, .slice Az122 l0_4.length cz122] 53 (0, 0)) HX141.out hk (fun hs_ => by have := CC.out; have h2_ := hs_; omega)); have n11_ := Aside0.mk (blk_kept (g := w8.heap.size) (o := .cells #[.int .i64 a1_0, .slice Az145 l1_1.length cz145, .int .i64 a1_2, .int .i64 a1_3, .slice Az147 l1_4.length cz147] 53 (0, 0)) HX172.out hk (fun hs_ => by have := CC.out; have h2_ := hs_; omega)); have n12_ := Aside0.mk (blk_kept (g := w9.heap.size) (o := .cells #[.int .i64 r71, .slice Az176 r72.length cz176, .int .i64 r73, .int .i64 r74, .slice Az178 r75.length cz178] 53 (0, 0)) HX209.out hk (fun hs_ => by have := CC.out; have h2_ := hs_; omega)); have n13_ := Aside0.mk (hbk); have C453 : Aside0 (w15.heap.size ≤ w16.heap.size) := ⟨by have h_ := hk.1; (try simp at h_); omega⟩; have CCn_ := Aside0.mk (And.intro CC.out C453.out); clear CC; have CC := CCn_; clear CCn_; clear HO79; clear HO81; clear HO119; clear HO121; clear HO175; clear HO177; clear HX1; clear HX2; clear HX95; clear HX141; clear HX172; clear HX209; clear HB; clear hl413; clear hx414; clear hx415; clear hx416; clear hx417; clear hx418; clear hl419; clear hx420; clear hx421; clear hx422; clear hx423; clear hx424; clear hl425; clear hx426; clear hx427; clear hx428; clear hx429; clear hx430; clear hl431; clear hx432; clear hx433; clear hx434; clear hx435; clear hx436; clear hl437; clear hx438; clear hx439; clear hx440; clear hx441; clear hx442; clear hl443; clear hx444; clear hx445; clear hx446; clear hx447; clear hx448; have HO79 := n1_; clear n1_; have HO81 := n2_; clear n2_; have HO119 := n3_; clear n3_; have HO121 := n4_; clear n4_; have HO175 := n5_; clear n5_; have HO177 := n6_; clear n6_; have HX1 := n7_; clear n7_; have HX2 := n8_; clear n8_; have HX95 := n9_; clear n9_; have HX141 := n10_; clear n10_; have HX172 := n11_; clear n11_; have HX209 := n12_; clear n12_; have HB := n13_; clear n13_; clear HO144; have HO144 := Aside0.mk hm0_; clear HO146; have HO146 := Aside0.mk hm1_; (try clear hk); (try clear hbk); (try clear hm0_); (try clear hm1_); have hl454 : w.heap.size < w16.heap.size := blk_lt HX1.out; obtain ⟨hx455, hx456, hx457, hx458, hx459, _⟩ := box5 HX1.out; have hl460 : w.heap.size + 1 < w16.heap.size := blk_lt HX2.out; obtain ⟨hx461, hx462, hx463, hx464, hx465, _⟩ := box5 HX2.out; have hl466 : gC96 < w16.heap.size := blk_lt HX95.out; obtain ⟨hx467, hx468, hx469, hx470, hx471, _⟩ := box5 HX95.out; have hl472 : w7.heap.size < w16.heap.size := blk_lt HX141.out; obtain ⟨hx473, hx474, hx475, hx476, hx477, _⟩ := box5 HX141.out; have hl478 : w8.heap.size < w16.heap.size := blk_lt HX172.out; obtain ⟨hx479, hx480, hx481, hx482, hx483, _⟩ := box5 HX172.out; have hl484 : w9.heap.size < w16.heap.size := blk_lt HX209.out; obtain ⟨hx485, hx486, hx487, hx488, hx489, _⟩ := box5 HX209.out) | (go_at_call 43; (with_reducible refine (laws_eqScheme.calls k r71 _ _ r72 r73 r74 _ _ r75 r71 _ _ r72 r73 r74 _ _ r75 true _ ?side1 ?side2 ?side3 ?side4 ?side5 ?side6 ?side7 ?side8 A491.out).mono ?_); (case side1 => exact (Kd.R_reads' (n := r72.length) (A := Az176) (c := cz176) HO175.out).2.2); (case side2 => exact (Kd.R_reads' (n := r72.length) (A := Az176) (c := cz176) HO175.out).2.1); (case side3 => exact (Kd.S_reads' (n := r75.length) (A := Az178) (c := cz178) HO177.out).2.2); (case side4 => exact (Kd.S_reads' (n := r75.length) (A := Az178) (c := cz178) HO177.out).2.1); (case side5 => exact (Kd.R_reads' (n := r72.length) (A := Az80) (c := cz80) HO79.out).2.2); (case side6 => exact (Kd.R_reads' (n := r72.length) (A := Az80) (c := cz80) HO79.out).2.1); (case side7 => exact (Kd.S_reads' (n := r75.length) (A := Az82) (c := cz82) HO81.out).2.2); (case side8 => exact (Kd.S_reads' (n := r75.length) (A := Az82) (c := cz82) HO81.out).2.1); rintro e w17 ⟨rfl, hb⟩; have n1_ := Aside0.mk (Kd.R_below HO79.out hb); have n2_ := Aside0.mk (Kd.S_below HO81.out hb); have n3_ := Aside0.mk (Kd.R_below HO119.out hb); have n4_ := Aside0.mk (Kd.S_below HO121.out hb); have n5_ := Aside0.mk (Kd.R_below HO144.out hb); have n6_ := Aside0.mk (Kd.S_below HO146.out hb); have n7_ := Aside0.mk (Kd.R_below HO175.out hb); have n8_ := Aside0.mk (Kd.S_below HO177.out hb); have n9_ := Aside0.mk (blk_below HX1.out hb); have n10_ := Aside0.mk (blk_below HX2.out hb); have n11_ := Aside0.mk (blk_below HX95.out hb); have n12_ := Aside0.mk (blk_below HX141.out hb); have n13_ := Aside0.mk (blk_below HX172.out hb); have n14_ := Aside0.mk (blk_below HX209.out hb); have n15_ := Aside0.mk (below_step HB.out hb); have C492 : Aside0 (w16.heap.size ≤ w17.heap.size) := ⟨by have h_ := hb.size; (try simp at h_); omega⟩; have CCn_ := Aside0.mk (And.intro CC.out C492.out); clear CC; have CC := CCn_; clear CCn_; clear HO79; clear HO81; clear HO119; clear HO121; clear HO144; clear HO146; clear HO175; clear HO177; clear HX1; clear HX2; clear HX95; clear HX141; clear HX172; clear HX209; clear HB; clear hl454; clear hx455; clear hx456; clear hx457; clear hx458; clear hx459; clear hl460; clear hx461; clear hx462; clear hx463; clear hx464; clear hx465; clear hl466; clear hx467; clear hx468; clear hx469; clear hx470; clear hx471; clear hl472; clear hx473; clear hx474; clear hx475; clear hx476; clear hx477; clear hl478; clear hx479; clear hx480; clear hx481; clear hx482; clear hx483; clear hl484; clear hx485; clear hx486; clear hx487; clear hx488; clear hx489; have HO79 := n1_; clear n1_; have HO81 := n2_; clear n2_; have HO119 := n3_; clear n3_; have HO121 := n4_; clear n4_; have HO144 := n5_; clear n5_; have HO146 := n6_; clear n6_; have HO175 := n7_; clear n7_; have HO177 := n8_; clear n8_; have HX1 := n9_; clear n9_; have HX2 := n10_; clear n10_; have HX95 := n11_; clear n11_; have HX141 := n12_; clear n12_; have HX172 := n13_; clear n13_; have HX209 := n14_; clear n14_; have HB := n15_; clear n15_; (try clear hb); have hl493 : w.heap.size < w17.heap.size := blk_lt HX1.out; obtain ⟨hx494, hx495, hx496, hx497, hx498, _⟩ := box5 HX1.out; have hl499 : w.heap.size + 1 < w17.heap.size := blk_lt HX2.out; obtain ⟨hx500, hx501, hx502, hx503, hx504, _⟩ := box5 HX2.out; have hl505 : gC96 < w17.heap.size := blk_lt HX95.out; obtain ⟨hx506, hx507, hx508, hx509, hx510, _⟩ := box5 HX95.out; have hl511 : w7.heap.size < w17.heap.size := blk_lt HX141.out; obtain ⟨hx512, hx513, hx514, hx515, hx516, _⟩ := box5 HX141.out; have hl517 : w8.heap.size < w17.heap.size := blk_lt HX172.out; obtain ⟨hx518, hx519, hx520, hx521, hx522, _⟩ := box5 HX172.out; have hl523 : w9.heap.size < w17.heap.size := blk_lt HX209.out; obtain ⟨hx524, hx525, hx526, hx527, hx528, _⟩ := box5 HX209.out) | ((with_reducible refine gate_callee (f := 44) rfl ?_); refine goesL_ (some 85) rfl rfl Try.func44 (by kernel_rfl) rfl #[.agg #[.int .i64 r71, .slice Az176 r72.length cz176, .int .i64 r73, .int .i64 r74, .slice Az178 r75.length cz178], .int .i64 1] rfl (by (try simp only [List.map_toArray, List.map_cons, List.map_nil]); first | done | rfl | (simp only [List.length_drop, List.length_take]; rfl)) ?_; (with_reducible refine (laws_markScheme.callsM k r71 (fun k_ => (w8.heap.size + 1 ≤ k_ ∧ k_ < w9.heap.size) ∧ some k_ = (.slice Az176 r72.length cz176 : Value).ownBlock) (.slice Az176 r72.length cz176) r72 r73 r74 (fun k_ => (w8.heap.size + 1 ≤ k_ ∧ k_ < w9.heap.size) ∧ some k_ ≠ (.slice Az176 r72.length cz176 : Value).ownBlock) (.slice Az178 r75.length cz178) r75 1 m529 ys530 ys531 w _ ?side1 ?side2 ?side3 ?side4 A532.out).mono ?_); (case side1 => repeat (first | (with_reducible first | exact HB.out | apply below_alloc | apply pw_below_drewN | apply below_drew1) | exact HB.out)); (case side2 => exact HO175.out); (case side3 => exact HO177.out); (case side4 => exact fun k_ h0_ h1_ => h1_.2 h0_.2); rintro e w18 ⟨rfl, hm0_, hm1_, hbk, hk⟩; refine ⟨_, rfl, ?_⟩; have n1_ := Aside0.mk (Kd.R_kept HO79.out hk (fun k_ hk_ hs_ => by have := CC.out; have h1_ := hk_; have h2_ := hs_; omega)); have n2_ := Aside0.mk (Kd.S_kept HO81.out hk (fun k_ hk_ hs_ => by have := CC.out; have h1_ := hk_; have h2_ := hs_; omega)); have n3_ := Aside0.mk (Kd.R_kept HO119.out hk (fun k_ hk_ hs_ => by have := CC.out; have h1_ := hk_; have h2_ := hs_; omega)); have n4_ := Aside0.mk (Kd.S_kept HO121.out hk (fun k_ hk_ hs_ => by have := CC.out; have h1_ := hk_; have h2_ := hs_; omega)); have n5_ := Aside0.mk (Kd.R_kept HO144.out hk (fun k_ hk_ hs_ => by have := CC.out; have h1_ := hk_; have h2_ := hs_; omega)); have n6_ := Aside0.mk (Kd.S_kept HO146.out hk (fun k_ hk_ hs_ => by have := CC.out; have h1_ := hk_; have h2_ := hs_; omega)); have n7_ := Aside0.mk (blk_kept (g := w.heap.size) (o := .cells #[.int .i64 a0_0, .slice A0_1 l0_1.length c0_1, .int .i64 a0_2, .int .i64 a0_3, .slice A0_4 l0_4.length c0_4] 50 (0, 0)) HX1.out hk (fun hs_ => by have := CC.out; have h2_ := hs_; omega)); have n8_ := Aside0.mk (blk_kept (g := w.heap.size + 1) (o := .cells #[.int .i64 a1_0, .slice A1_1 l1_1.length c1_1, .int .i64 a1_2, .int .i64 a1_3, .slice A1_4 l1_4.length c1_4] 50 (0, 0)) HX2.out hk (fun hs_ => by have := CC.out; have h2_ := hs_; omega)); have n9_ := Aside0.mk (blk_kept (g := gC96) (o := .cells #[.int .i64 r71, .slice Az80 r72.length cz80, .int .i64 r73, .int .i64 r74, .slice Az82 r75.length cz82] 53 (0, 0)) HX95.out hk (fun hs_ => by have := CC.out; have h2_ := hs_; omega)); have n10_ := Aside0.mk (blk_kept (g := w7.heap.size) (o := .cells #[.int .i64 a0_0, .slice Az120 l0_1.length cz120, .int .i64 a0_2, .int .i64 a0_3, .slice Az122 l0_4.length cz122] 53 (0, 0)) HX141.out hk (fun hs_ => by have := CC.out; have h2_ := hs_; omega)); have n11_ := Aside0.mk (blk_kept (g := w8.heap.size) (o := .cells #[.int .i64 a1_0, .slice Az145 l1_1.length cz145, .int .i64 a1_2, .int .i64 a1_3, .slice Az147 l1_4.length cz147] 53 (0, 0)) HX172.out hk (fun hs_ => by have := CC.out; have h2_ := hs_; omega)); have n12_ := Aside0.mk (blk_kept (g := w9.heap.size) (o := .cells #[.int .i64 r71, .slice Az176 r72.length cz176, .int .i64 r73, .int .i64 r74, .slice Az178 r75.length cz178] 53 (0, 0)) HX209.out hk (fun hs_ => by have := CC.out; have h2_ := hs_; omega)); have n13_ := Aside0.mk (hbk); have C533 : Aside0 (w17.heap.size ≤ w18.heap.size) := ⟨by have h_ := hk.1; (try simp at h_); omega⟩; have CCn_ := Aside0.mk (And.intro CC.out C533.out); clear CC; have CC := CCn_; clear CCn_; clear HO79; clear HO81; clear HO119; clear HO121; clear HO144; clear HO146; clear HX1; clear HX2; clear HX95; clear HX141; clear HX172; clear HX209; clear HB; clear hl493; clear hx494; clear hx495; clear hx496; clear hx497; clear hx498; clear hl499; clear hx500; clear hx501; clear hx502; clear hx503; clear hx504; clear hl505; clear hx506; clear hx507; clear hx508; clear hx509; clear hx510; clear hl511; clear hx512; clear hx513; clear hx514; clear hx515; clear hx516; clear hl517; clear hx518; clear hx519; clear hx520; clear hx521; clear hx522; clear hl523; clear hx524; clear hx525; clear hx526; clear hx527; clear hx528; have HO79 := n1_; clear n1_; have HO81 := n2_; clear n2_; have HO119 := n3_; clear n3_; have HO121 := n4_; clear n4_; have HO144 := n5_; clear n5_; have HO146 := n6_; clear n6_; have HX1 := n7_; clear n7_; have HX2 := n8_; clear n8_; have HX95 := n9_; clear n9_; have HX141 := n10_; clear n10_; have HX172 := n11_; clear n11_; have HX209 := n12_; clear n12_; have HB := n13_; clear n13_; clear HO175; have HO175 := Aside0.mk hm0_; clear HO177; have HO177 := Aside0.mk hm1_; (try clear hk); (try clear hbk); (try clear hm0_); (try clear hm1_); have hl534 : w.heap.size < w18.heap.size := blk_lt HX1.out; obtain ⟨hx535, hx536, hx537, hx538, hx539, _⟩ := box5 HX1.out; have hl540 : w.heap.size + 1 < w18.heap.size := blk_lt HX2.out; obtain ⟨hx541, hx542, hx543, hx544, hx545, _⟩ := box5 HX2.out; have hl546 : gC96 < w18.heap.size := blk_lt HX95.out; obtain ⟨hx547, hx548, hx549, hx550, hx551, _⟩ := box5 HX95.out; have hl552 : w7.heap.size < w18.heap.size := blk_lt HX141.out; obtain ⟨hx553, hx554, hx555, hx556, hx557, _⟩ := box5 HX141.out; have hl558 : w8.heap.size < w18.heap.size := blk_lt HX172.out; obtain ⟨hx559, hx560, hx561, hx562, hx563, _⟩ := box5 HX172.out; have hl564 : w9.heap.size < w18.heap.size := blk_lt HX209.out; obtain ⟨hx565, hx566, hx567, hx568, hx569, _⟩ := box5 HX209.out) | ((with_reducible refine gate_callee (f := 45) rfl ?_); refine goesL_ (some 88) rfl rfl Try.func45 (by kernel_rfl) rfl #[.agg #[.int .i64 r71, .slice Az176 r72.length cz176, .int .i64 r73, .int .i64 r74, .slice Az178 r75.length cz178], .int .i64 1] rfl (by (try simp only [List.map_toArray, List.map_cons, List.map_nil]); first | done | rfl | (simp only [List.length_drop, List.length_take]; rfl)) ?_; (with_reducible refine (calls_as ?eq_ (laws_heldScheme.calls k r71 Az176 cz176 ys530 r73 r74 Az178 cz178 ys531 1 m529 _ ?side1 ?side2 ?side3 ?side4 A570.out)).mono ?_); (case eq_ => rw [show ys530.length = r72.length from (Kd.R_reads' HO175.out).1.symm, show ys531.length = r75.length from (Kd.S_reads' HO177.out).1.symm]); (case side1 => exact (Kd.R_reads' (n := r72.length) (A := Az176) (c := cz176) HO175.out).2.2); (case side2 => exact Nat.le_trans (Nat.le_of_eq (Kd.R_reads' HO175.out).1.symm) (Kd.R_reads' HO175.out).2.1); (case side3 => exact (Kd.S_reads' (n := r75.length) (A := Az178) (c := cz178) HO177.out).2.2); (case side4 => exact Nat.le_trans (Nat.le_of_eq (Kd.S_reads' HO177.out).1.symm) (Kd.S_reads' HO177.out).2.1); rintro e w19 ⟨rfl, hb⟩; refine ⟨_, rfl, ?_⟩; have n1_ := Aside0.mk (Kd.R_below HO79.out hb); have n2_ := Aside0.mk (Kd.S_below HO81.out hb); have n3_ := Aside0.mk (Kd.R_below HO119.out hb); have n4_ := Aside0.mk (Kd.S_below HO121.out hb); have n5_ := Aside0.mk (Kd.R_below HO144.out hb); have n6_ := Aside0.mk (Kd.S_below HO146.out hb); have n7_ := Aside0.mk (Kd.R_below HO175.out hb); have n8_ := Aside0.mk (Kd.S_below HO177.out hb); have n9_ := Aside0.mk (blk_below HX1.out hb); have n10_ := Aside0.mk (blk_below HX2.out hb); have n11_ := Aside0.mk (blk_below HX95.out hb); have n12_ := Aside0.mk (blk_below HX141.out hb); have n13_ := Aside0.mk (blk_below HX172.out hb); have n14_ := Aside0.mk (blk_below HX209.out hb); have n15_ := Aside0.mk (below_step HB.out hb); have C571 : Aside0 (w18.heap.size ≤ w19.heap.size) := ⟨by have h_ := hb.size; (try simp at h_); omega⟩; have CCn_ := Aside0.mk (And.intro CC.out C571.out); clear CC; have CC := CCn_; clear CCn_; clear HO79; clear HO81; clear HO119; clear HO121; clear HO144; clear HO146; clear HO175; clear HO177; clear HX1; clear HX2; clear HX95; clear HX141; clear HX172; clear HX209; clear HB; clear hl534; clear hx535; clear hx536; clear hx537; clear hx538; clear hx539; clear hl540; clear hx541; clear hx542; clear hx543; clear hx544; clear hx545; clear hl546; clear hx547; clear hx548; clear hx549; clear hx550; clear hx551; clear hl552; clear hx553; clear hx554; clear hx555; clear hx556; clear hx557; clear hl558; clear hx559; clear hx560; clear hx561; clear hx562; clear hx563; clear hl564; clear hx565; clear hx566; clear hx567; clear hx568; clear hx569; have HO79 := n1_; clear n1_; have HO81 := n2_; clear n2_; have HO119 := n3_; clear n3_; have HO121 := n4_; clear n4_; have HO144 := n5_; clear n5_; have HO146 := n6_; clear n6_; have HO175 := n7_; clear n7_; have HO177 := n8_; clear n8_; have HX1 := n9_; clear n9_; have HX2 := n10_; clear n10_; have HX95 := n11_; clear n11_; have HX141 := n12_; clear n12_; have HX172 := n13_; clear n13_; have HX209 := n14_; clear n14_; have HB := n15_; clear n15_; (try clear hb); have hl572 : w.heap.size < w19.heap.size := blk_lt HX1.out; obtain ⟨hx573, hx574, hx575, hx576, hx577, _⟩ := box5 HX1.out; have hl578 : w.heap.size + 1 < w19.heap.size := blk_lt HX2.out; obtain ⟨hx579, hx580, hx581, hx582, hx583, _⟩ := box5 HX2.out; have hl584 : gC96 < w19.heap.size := blk_lt HX95.out; obtain ⟨hx585, hx586, hx587, hx588, hx589, _⟩ := box5 HX95.out; have hl590 : w7.heap.size < w19.heap.size := blk_lt HX141.out; obtain ⟨hx591, hx592, hx593, hx594, hx595, _⟩ := box5 HX141.out; have hl596 : w8.heap.size < w19.heap.size := blk_lt HX172.out; obtain ⟨hx597, hx598, hx599, hx600, hx601, _⟩ := box5 HX172.out; have hl602 : w9.heap.size < w19.heap.size := blk_lt HX209.out; obtain ⟨hx603, hx604, hx605, hx606, hx607, _⟩ := box5 HX209.out))
 go_cut [15, 16] from 94 (fun s15_ s16_ wx => ∃ (gC736 : Nat) (Az696 : Option Addr) (cz696 : Nat) (Az698 : Option Addr) (cz698 : Nat), s15_ = .pointer (some ⟨gC736, 0, none⟩) ∧ s16_ = .int .i64 r76 ∧ Aside0 (Kd.R (Kd.int .i64) 2 wx w.heap.size (fun k_ => w19.heap.size ≤ k_ ∧ k_ < wx.heap.size) (.slice Az696 r72.length cz696) r72) ∧ Aside0 (Kd.S (Kd.slice 2 (Kd.int .i64)) 35 wx w.heap.size (fun k_ => w19.heap.size ≤ k_ ∧ k_ < wx.heap.size) (.slice Az698 r75.length cz698) r75) ∧ Aside0 (wx.heap[gC736]? = some (.cells #[.int .i64 r71, .slice Az696 r72.length cz696, .int .i64 r73, .int .i64 r74, .slice Az698 r75.length cz698] 53 (0, 0))) ∧ Aside0 (Kd.R (Kd.int .i64) 2 wx w.heap.size (fun k_ => w2.heap.size ≤ k_ ∧ k_ < w6.heap.size) (.slice Az80 r72.length cz80) r72) ∧ Aside0 (Kd.S (Kd.slice 2 (Kd.int .i64)) 35 wx w.heap.size (fun k_ => w2.heap.size ≤ k_ ∧ k_ < w6.heap.size) (.slice Az82 r75.length cz82) r75) ∧ Aside0 (Kd.R (Kd.int .i64) 2 wx w.heap.size (fun k_ => (w6.heap.size ≤ k_ ∧ k_ < w7.heap.size) ∧ some k_ = (.slice Az120 l0_1.length cz120 : Value).ownBlock) (.slice Az120 l0_1.length cz120) ys409) ∧ Aside0 (Kd.S (Kd.slice 2 (Kd.int .i64)) 35 wx w.heap.size (fun k_ => (w6.heap.size ≤ k_ ∧ k_ < w7.heap.size) ∧ some k_ ≠ (.slice Az120 l0_1.length cz120 : Value).ownBlock) (.slice Az122 l0_4.length cz122) ys410) ∧ Aside0 (Kd.R (Kd.int .i64) 2 wx w.heap.size (fun k_ => (w7.heap.size + 1 ≤ k_ ∧ k_ < w8.heap.size) ∧ some k_ = (.slice Az145 l1_1.length cz145 : Value).ownBlock) (.slice Az145 l1_1.length cz145) ys450) ∧ Aside0 (Kd.S (Kd.slice 2 (Kd.int .i64)) 35 wx w.heap.size (fun k_ => (w7.heap.size + 1 ≤ k_ ∧ k_ < w8.heap.size) ∧ some k_ ≠ (.slice Az145 l1_1.length cz145 : Value).ownBlock) (.slice Az147 l1_4.length cz147) ys451) ∧ Aside0 (Kd.R (Kd.int .i64) 2 wx w.heap.size (fun k_ => (w8.heap.size + 1 ≤ k_ ∧ k_ < w9.heap.size) ∧ some k_ = (.slice Az176 r72.length cz176 : Value).ownBlock) (.slice Az176 r72.length cz176) ys530) ∧ Aside0 (Kd.S (Kd.slice 2 (Kd.int .i64)) 35 wx w.heap.size (fun k_ => (w8.heap.size + 1 ≤ k_ ∧ k_ < w9.heap.size) ∧ some k_ ≠ (.slice Az176 r72.length cz176 : Value).ownBlock) (.slice Az178 r75.length cz178) ys531) ∧ Aside0 (wx.heap[w.heap.size]? = some (.cells #[.int .i64 a0_0, .slice A0_1 l0_1.length c0_1, .int .i64 a0_2, .int .i64 a0_3, .slice A0_4 l0_4.length c0_4] 50 (0, 0))) ∧ Aside0 (wx.heap[w.heap.size + 1]? = some (.cells #[.int .i64 a1_0, .slice A1_1 l1_1.length c1_1, .int .i64 a1_2, .int .i64 a1_3, .slice A1_4 l1_4.length c1_4] 50 (0, 0))) ∧ Aside0 (wx.heap[gC96]? = some (.cells #[.int .i64 r71, .slice Az80 r72.length cz80, .int .i64 r73, .int .i64 r74, .slice Az82 r75.length cz82] 53 (0, 0))) ∧ Aside0 (wx.heap[w7.heap.size]? = some (.cells #[.int .i64 a0_0, .slice Az120 l0_1.length cz120, .int .i64 a0_2, .int .i64 a0_3, .slice Az122 l0_4.length cz122] 53 (0, 0))) ∧ Aside0 (wx.heap[w8.heap.size]? = some (.cells #[.int .i64 a1_0, .slice Az145 l1_1.length cz145, .int .i64 a1_2, .int .i64 a1_3, .slice Az147 l1_4.length cz147] 53 (0, 0))) ∧ Aside0 (wx.heap[w9.heap.size]? = some (.cells #[.int .i64 r71, .slice Az176 r72.length cz176, .int .i64 r73, .int .i64 r74, .slice Az178 r75.length cz178] 53 (0, 0))) ∧ Aside0 (Below w.heap.size w wx) ∧ Aside0 (w19.heap.size ≤ wx.heap.size))
 case first =>
  go_region_held3 (fun w' => w'.cell? ⟨w.heap.size, 0, none⟩ = some (.int .i64 a0_0) ∧ w'.cell? ⟨w.heap.size, 1, none⟩ = some (.slice A0_1 l0_1.length c0_1) ∧ w'.cell? ⟨w.heap.size, 2, none⟩ = some (.int .i64 a0_2) ∧ w'.cell? ⟨w.heap.size, 3, none⟩ = some (.int .i64 a0_3) ∧ w'.cell? ⟨w.heap.size, 4, none⟩ = some (.slice A0_4 l0_4.length c0_4) ∧ w'.cell? ⟨w.heap.size + 1, 0, none⟩ = some (.int .i64 a1_0) ∧ w'.cell? ⟨w.heap.size + 1, 1, none⟩ = some (.slice A1_1 l1_1.length c1_1) ∧ w'.cell? ⟨w.heap.size + 1, 2, none⟩ = some (.int .i64 a1_2) ∧ w'.cell? ⟨w.heap.size + 1, 3, none⟩ = some (.int .i64 a1_3) ∧ w'.cell? ⟨w.heap.size + 1, 4, none⟩ = some (.slice A1_4 l1_4.length c1_4)) (first | ((repeat' apply And.intro) <;> (with_reducible assumption)) | exact ⟨(cell_far5 (a := ⟨w.heap.size, 0, none⟩) (blk_ne HX1.out hz_.out (by decide))).trans (by assumption), (cell_far5 (a := ⟨w.heap.size, 1, none⟩) (blk_ne HX1.out hz_.out (by decide))).trans (by assumption), (cell_far5 (a := ⟨w.heap.size, 2, none⟩) (blk_ne HX1.out hz_.out (by decide))).trans (by assumption), (cell_far5 (a := ⟨w.heap.size, 3, none⟩) (blk_ne HX1.out hz_.out (by decide))).trans (by assumption), (cell_far5 (a := ⟨w.heap.size, 4, none⟩) (blk_ne HX1.out hz_.out (by decide))).trans (by assumption), (cell_far5 (a := ⟨w.heap.size + 1, 0, none⟩) (blk_ne HX2.out hz_.out (by decide))).trans (by assumption), (cell_far5 (a := ⟨w.heap.size + 1, 1, none⟩) (blk_ne HX2.out hz_.out (by decide))).trans (by assumption), (cell_far5 (a := ⟨w.heap.size + 1, 2, none⟩) (blk_ne HX2.out hz_.out (by decide))).trans (by assumption), (cell_far5 (a := ⟨w.heap.size + 1, 3, none⟩) (blk_ne HX2.out hz_.out (by decide))).trans (by assumption), (cell_far5 (a := ⟨w.heap.size + 1, 4, none⟩) (blk_ne HX2.out hz_.out (by decide))).trans (by assumption)⟩ | go_keep) (first | (go_at_call 41; (with_reducible refine (laws_toScheme.calls k a0_0 _ _ l0_1 a0_2 a0_3 _ _ l0_4 a0_0 l0_1 a0_2 a0_3 l0_4 _ ?side1 ?side2 ?side3 ?side4 A609.out).mono ?_); (case side1 => exact Kd.C_below HR0_1.out (by repeat (first | (with_reducible first | exact HB.out | apply below_alloc | apply pw_below_drewN | apply below_drew1) | exact HB.out))); (case side2 => exact HC0_1.out); (case side3 => exact Kd.C_below HR0_4.out (by repeat (first | (with_reducible first | exact HB.out | apply below_alloc | apply pw_below_drewN | apply below_drew1) | exact HB.out))); (case side4 => exact HC0_4.out); rintro e w20 ⟨v100_, v101_, rfl, ho0_, ho1_, hb⟩; have n1_ := Aside0.mk (Kd.R_below (by (with_reducible repeat (first | apply Kd.R_alloc | apply Kd.R_drewN | apply Kd.R_drew)); exact HO79.out) hb); have n2_ := Aside0.mk (Kd.S_below (by (with_reducible repeat (first | apply Kd.S_alloc | apply Kd.S_drewN | apply Kd.S_drew)); exact HO81.out) hb); have n3_ := Aside0.mk (Kd.R_below (by (with_reducible repeat (first | apply Kd.R_alloc | apply Kd.R_drewN | apply Kd.R_drew)); exact HO119.out) hb); have n4_ := Aside0.mk (Kd.S_below (by (with_reducible repeat (first | apply Kd.S_alloc | apply Kd.S_drewN | apply Kd.S_drew)); exact HO121.out) hb); have n5_ := Aside0.mk (Kd.R_below (by (with_reducible repeat (first | apply Kd.R_alloc | apply Kd.R_drewN | apply Kd.R_drew)); exact HO144.out) hb); have n6_ := Aside0.mk (Kd.S_below (by (with_reducible repeat (first | apply Kd.S_alloc | apply Kd.S_drewN | apply Kd.S_drew)); exact HO146.out) hb); have n7_ := Aside0.mk (Kd.R_below (by (with_reducible repeat (first | apply Kd.R_alloc | apply Kd.R_drewN | apply Kd.R_drew)); exact HO175.out) hb); have n8_ := Aside0.mk (Kd.S_below (by (with_reducible repeat (first | apply Kd.S_alloc | apply Kd.S_drewN | apply Kd.S_drew)); exact HO177.out) hb); (first | (have hzn_ := Aside0.mk (blk_below (g := w19.heap.size) (o := .cells #[(.int .i64 0 : Value), (.slice none 0 0 : Value), (.int .i64 0 : Value), (.int .i64 0 : Value), (.slice none 0 0 : Value)] 53 (0, 0)) (by exact blk_new_at (by simp)) hb)) | (have hzn_ := Aside0.mk (blk_below (o := .cells #[(.int .i64 0 : Value), (.slice none 0 0 : Value), (.int .i64 0 : Value), (.int .i64 0 : Value), (.slice none 0 0 : Value)] 53 (0, 0)) hz_.out hb); clear hz_) | skip); (try (have hz_ := hzn_; clear hzn_)); (try have hzc0_ : w20.cell? ⟨_, 0, none⟩ = some ((.int .i64 0 : Value)) := (blk_cell hz_.out 0).trans rfl); (try have hzf0_ := blk_frozen hz_.out 0); (try have hzc1_ : w20.cell? ⟨_, 1, none⟩ = some ((.slice none 0 0 : Value)) := (blk_cell hz_.out 1).trans rfl); (try have hzf1_ := blk_frozen hz_.out 1); (try have hzc2_ : w20.cell? ⟨_, 2, none⟩ = some ((.int .i64 0 : Value)) := (blk_cell hz_.out 2).trans rfl); (try have hzf2_ := blk_frozen hz_.out 2); (try have hzc3_ : w20.cell? ⟨_, 3, none⟩ = some ((.int .i64 0 : Value)) := (blk_cell hz_.out 3).trans rfl); (try have hzf3_ := blk_frozen hz_.out 3); (try have hzc4_ : w20.cell? ⟨_, 4, none⟩ = some ((.slice none 0 0 : Value)) := (blk_cell hz_.out 4).trans rfl); (try have hzf4_ := blk_frozen hz_.out 4); (try have hzl_ := blk_lt hz_.out); have n9_ := Aside0.mk (blk_below (g := w.heap.size) (o := .cells #[.int .i64 a0_0, .slice A0_1 l0_1.length c0_1, .int .i64 a0_2, .int .i64 a0_3, .slice A0_4 l0_4.length c0_4] 50 (0, 0)) (by (with_reducible repeat (first | refine blk_drewN ?_ _ | refine blk_drew ?_ | refine blk_alloc ?_ _)); exact HX1.out) hb); have n10_ := Aside0.mk (blk_below (g := w.heap.size + 1) (o := .cells #[.int .i64 a1_0, .slice A1_1 l1_1.length c1_1, .int .i64 a1_2, .int .i64 a1_3, .slice A1_4 l1_4.length c1_4] 50 (0, 0)) (by (with_reducible repeat (first | refine blk_drewN ?_ _ | refine blk_drew ?_ | refine blk_alloc ?_ _)); exact HX2.out) hb); have n11_ := Aside0.mk (blk_below (g := gC96) (o := .cells #[.int .i64 r71, .slice Az80 r72.length cz80, .int .i64 r73, .int .i64 r74, .slice Az82 r75.length cz82] 53 (0, 0)) (by (with_reducible repeat (first | refine blk_drewN ?_ _ | refine blk_drew ?_ | refine blk_alloc ?_ _)); exact HX95.out) hb); have n12_ := Aside0.mk (blk_below (g := w7.heap.size) (o := .cells #[.int .i64 a0_0, .slice Az120 l0_1.length cz120, .int .i64 a0_2, .int .i64 a0_3, .slice Az122 l0_4.length cz122] 53 (0, 0)) (by (with_reducible repeat (first | refine blk_drewN ?_ _ | refine blk_drew ?_ | refine blk_alloc ?_ _)); exact HX141.out) hb); have n13_ := Aside0.mk (blk_below (g := w8.heap.size) (o := .cells #[.int .i64 a1_0, .slice Az145 l1_1.length cz145, .int .i64 a1_2, .int .i64 a1_3, .slice Az147 l1_4.length cz147] 53 (0, 0)) (by (with_reducible repeat (first | refine blk_drewN ?_ _ | refine blk_drew ?_ | refine blk_alloc ?_ _)); exact HX172.out) hb); have n14_ := Aside0.mk (blk_below (g := w9.heap.size) (o := .cells #[.int .i64 r71, .slice Az176 r72.length cz176, .int .i64 r73, .int .i64 r74, .slice Az178 r75.length cz178] 53 (0, 0)) (by (with_reducible repeat (first | refine blk_drewN ?_ _ | refine blk_drew ?_ | refine blk_alloc ?_ _)); exact HX209.out) hb); have n15_ := Aside0.mk (below_step (by repeat (first | (with_reducible first | exact HB.out | apply below_alloc | apply pw_below_drewN | apply below_drew1) | exact HB.out)) hb); have C610 : Aside0 (w19.heap.size ≤ w20.heap.size) := ⟨by have h_ := hb.size; (try simp at h_); omega⟩; have CCn_ := Aside0.mk (And.intro CC.out C610.out); clear CC; have CC := CCn_; clear CCn_; clear HO79; clear HO81; clear HO119; clear HO121; clear HO144; clear HO146; clear HO175; clear HO177; clear HX1; clear HX2; clear HX95; clear HX141; clear HX172; clear HX209; clear HB; clear hl572; clear hx573; clear hx574; clear hx575; clear hx576; clear hx577; clear hl578; clear hx579; clear hx580; clear hx581; clear hx582; clear hx583; clear hl584; clear hx585; clear hx586; clear hx587; clear hx588; clear hx589; clear hl590; clear hx591; clear hx592; clear hx593; clear hx594; clear hx595; clear hl596; clear hx597; clear hx598; clear hx599; clear hx600; clear hx601; clear hl602; clear hx603; clear hx604; clear hx605; clear hx606; clear hx607; have HO79 := n1_; clear n1_; have HO81 := n2_; clear n2_; have HO119 := n3_; clear n3_; have HO121 := n4_; clear n4_; have HO144 := n5_; clear n5_; have HO146 := n6_; clear n6_; have HO175 := n7_; clear n7_; have HO177 := n8_; clear n8_; have HX1 := n9_; clear n9_; have HX2 := n10_; clear n10_; have HX95 := n11_; clear n11_; have HX141 := n12_; clear n12_; have HX172 := n13_; clear n13_; have HX209 := n14_; clear n14_; have HB := n15_; clear n15_; have HO611 := Aside0.mk (Kd.R_lower (base' := w.heap.size) (Kd.R_mono (Kd.R_bound (Kd.R_tight rfl ho0_)) (ok' := fun k_ => (w19.heap.size ≤ k_ ∧ k_ < w20.heap.size) ∧ some k_ = (v100_ : Value).ownBlock) (fun k_ hk_ => ⟨⟨by have h_ := hk_.2.1; (try simp at h_); omega, hk_.2.2.1⟩, hk_.1⟩)) (by have := CC.out; first | omega | (simp; done) | (simp; omega))); obtain ⟨Az612, cz612, ez612⟩ := Kd.R_slice HO611.out; subst ez612; have HO613 := Aside0.mk (Kd.S_lower (base' := w.heap.size) (Kd.S_mono (Kd.S_bound ho1_) (ok' := fun k_ => (w19.heap.size ≤ k_ ∧ k_ < w20.heap.size) ∧ some k_ ≠ (.slice Az612 l0_1.length cz612 : Value).ownBlock) (fun k_ hk_ => ⟨⟨by have h_ := hk_.2.1; (try simp at h_); omega, hk_.2.2.1⟩, hk_.1⟩)) (by have := CC.out; first | omega | (simp; done) | (simp; omega))); obtain ⟨Az614, cz614, ez614⟩ := Kd.S_slice HO613.out; subst ez614; (try clear hb); (try clear ho0_); (try clear ho1_); have hl615 : w.heap.size < w20.heap.size := blk_lt HX1.out; obtain ⟨hx616, hx617, hx618, hx619, hx620, _⟩ := box5 HX1.out; have hl621 : w.heap.size + 1 < w20.heap.size := blk_lt HX2.out; obtain ⟨hx622, hx623, hx624, hx625, hx626, _⟩ := box5 HX2.out; have hl627 : gC96 < w20.heap.size := blk_lt HX95.out; obtain ⟨hx628, hx629, hx630, hx631, hx632, _⟩ := box5 HX95.out; have hl633 : w7.heap.size < w20.heap.size := blk_lt HX141.out; obtain ⟨hx634, hx635, hx636, hx637, hx638, _⟩ := box5 HX141.out; have hl639 : w8.heap.size < w20.heap.size := blk_lt HX172.out; obtain ⟨hx640, hx641, hx642, hx643, hx644, _⟩ := box5 HX172.out; have hl645 : w9.heap.size < w20.heap.size := blk_lt HX209.out; obtain ⟨hx646, hx647, hx648, hx649, hx650, _⟩ := box5 HX209.out) | (go_at_call 41; (with_reducible refine (laws_toScheme.calls k a1_0 _ _ l1_1 a1_2 a1_3 _ _ l1_4 a1_0 l1_1 a1_2 a1_3 l1_4 _ ?side1 ?side2 ?side3 ?side4 A651.out).mono ?_); (case side1 => exact Kd.C_below HR1_1.out (by repeat (first | (with_reducible first | exact HB.out | apply below_alloc | apply pw_below_drewN | apply below_drew1) | exact HB.out))); (case side2 => exact HC1_1.out); (case side3 => exact Kd.C_below HR1_4.out (by repeat (first | (with_reducible first | exact HB.out | apply below_alloc | apply pw_below_drewN | apply below_drew1) | exact HB.out))); (case side4 => exact HC1_4.out); rintro e w21 ⟨v100_, v101_, rfl, ho0_, ho1_, hb⟩; have n1_ := Aside0.mk (Kd.R_below (by (with_reducible repeat (first | apply Kd.R_alloc | apply Kd.R_drewN | apply Kd.R_drew)); exact HO79.out) hb); have n2_ := Aside0.mk (Kd.S_below (by (with_reducible repeat (first | apply Kd.S_alloc | apply Kd.S_drewN | apply Kd.S_drew)); exact HO81.out) hb); have n3_ := Aside0.mk (Kd.R_below (by (with_reducible repeat (first | apply Kd.R_alloc | apply Kd.R_drewN | apply Kd.R_drew)); exact HO119.out) hb); have n4_ := Aside0.mk (Kd.S_below (by (with_reducible repeat (first | apply Kd.S_alloc | apply Kd.S_drewN | apply Kd.S_drew)); exact HO121.out) hb); have n5_ := Aside0.mk (Kd.R_below (by (with_reducible repeat (first | apply Kd.R_alloc | apply Kd.R_drewN | apply Kd.R_drew)); exact HO144.out) hb); have n6_ := Aside0.mk (Kd.S_below (by (with_reducible repeat (first | apply Kd.S_alloc | apply Kd.S_drewN | apply Kd.S_drew)); exact HO146.out) hb); have n7_ := Aside0.mk (Kd.R_below (by (with_reducible repeat (first | apply Kd.R_alloc | apply Kd.R_drewN | apply Kd.R_drew)); exact HO175.out) hb); have n8_ := Aside0.mk (Kd.S_below (by (with_reducible repeat (first | apply Kd.S_alloc | apply Kd.S_drewN | apply Kd.S_drew)); exact HO177.out) hb); have n9_ := Aside0.mk (Kd.R_below (by (with_reducible repeat (first | apply Kd.R_alloc | apply Kd.R_drewN | apply Kd.R_drew)); exact HO611.out) hb); have n10_ := Aside0.mk (Kd.S_below (by (with_reducible repeat (first | apply Kd.S_alloc | apply Kd.S_drewN | apply Kd.S_drew)); exact HO613.out) hb); (try clear hzc0_); (try clear hzf0_); (try clear hzc1_); (try clear hzf1_); (try clear hzc2_); (try clear hzf2_); (try clear hzc3_); (try clear hzf3_); (try clear hzc4_); (try clear hzf4_); (try clear hzl_); (first | (have hzn_ := Aside0.mk (blk_below (g := w20.heap.size) (o := .cells #[(.int .i64 0 : Value), (.slice none 0 0 : Value), (.int .i64 0 : Value), (.int .i64 0 : Value), (.slice none 0 0 : Value)] 53 (0, 0)) (by exact blk_new_at (by simp)) hb)) | (have hzn_ := Aside0.mk (blk_below (o := .cells #[(.int .i64 0 : Value), (.slice none 0 0 : Value), (.int .i64 0 : Value), (.int .i64 0 : Value), (.slice none 0 0 : Value)] 53 (0, 0)) hz_.out hb); clear hz_) | skip); (try (have hz_ := hzn_; clear hzn_)); (try have hzc0_ : w21.cell? ⟨_, 0, none⟩ = some ((.int .i64 0 : Value)) := (blk_cell hz_.out 0).trans rfl); (try have hzf0_ := blk_frozen hz_.out 0); (try have hzc1_ : w21.cell? ⟨_, 1, none⟩ = some ((.slice none 0 0 : Value)) := (blk_cell hz_.out 1).trans rfl); (try have hzf1_ := blk_frozen hz_.out 1); (try have hzc2_ : w21.cell? ⟨_, 2, none⟩ = some ((.int .i64 0 : Value)) := (blk_cell hz_.out 2).trans rfl); (try have hzf2_ := blk_frozen hz_.out 2); (try have hzc3_ : w21.cell? ⟨_, 3, none⟩ = some ((.int .i64 0 : Value)) := (blk_cell hz_.out 3).trans rfl); (try have hzf3_ := blk_frozen hz_.out 3); (try have hzc4_ : w21.cell? ⟨_, 4, none⟩ = some ((.slice none 0 0 : Value)) := (blk_cell hz_.out 4).trans rfl); (try have hzf4_ := blk_frozen hz_.out 4); (try have hzl_ := blk_lt hz_.out); have n11_ := Aside0.mk (blk_below (g := w.heap.size) (o := .cells #[.int .i64 a0_0, .slice A0_1 l0_1.length c0_1, .int .i64 a0_2, .int .i64 a0_3, .slice A0_4 l0_4.length c0_4] 50 (0, 0)) (by (with_reducible repeat (first | refine blk_drewN ?_ _ | refine blk_drew ?_ | refine blk_alloc ?_ _)); exact HX1.out) hb); have n12_ := Aside0.mk (blk_below (g := w.heap.size + 1) (o := .cells #[.int .i64 a1_0, .slice A1_1 l1_1.length c1_1, .int .i64 a1_2, .int .i64 a1_3, .slice A1_4 l1_4.length c1_4] 50 (0, 0)) (by (with_reducible repeat (first | refine blk_drewN ?_ _ | refine blk_drew ?_ | refine blk_alloc ?_ _)); exact HX2.out) hb); have n13_ := Aside0.mk (blk_below (g := gC96) (o := .cells #[.int .i64 r71, .slice Az80 r72.length cz80, .int .i64 r73, .int .i64 r74, .slice Az82 r75.length cz82] 53 (0, 0)) (by (with_reducible repeat (first | refine blk_drewN ?_ _ | refine blk_drew ?_ | refine blk_alloc ?_ _)); exact HX95.out) hb); have n14_ := Aside0.mk (blk_below (g := w7.heap.size) (o := .cells #[.int .i64 a0_0, .slice Az120 l0_1.length cz120, .int .i64 a0_2, .int .i64 a0_3, .slice Az122 l0_4.length cz122] 53 (0, 0)) (by (with_reducible repeat (first | refine blk_drewN ?_ _ | refine blk_drew ?_ | refine blk_alloc ?_ _)); exact HX141.out) hb); have n15_ := Aside0.mk (blk_below (g := w8.heap.size) (o := .cells #[.int .i64 a1_0, .slice Az145 l1_1.length cz145, .int .i64 a1_2, .int .i64 a1_3, .slice Az147 l1_4.length cz147] 53 (0, 0)) (by (with_reducible repeat (first | refine blk_drewN ?_ _ | refine blk_drew ?_ | refine blk_alloc ?_ _)); exact HX172.out) hb); have n16_ := Aside0.mk (blk_below (g := w9.heap.size) (o := .cells #[.int .i64 r71, .slice Az176 r72.length cz176, .int .i64 r73, .int .i64 r74, .slice Az178 r75.length cz178] 53 (0, 0)) (by (with_reducible repeat (first | refine blk_drewN ?_ _ | refine blk_drew ?_ | refine blk_alloc ?_ _)); exact HX209.out) hb); have n17_ := Aside0.mk (below_step (by repeat (first | (with_reducible first | exact HB.out | apply below_alloc | apply pw_below_drewN | apply below_drew1) | exact HB.out)) hb); have C652 : Aside0 (w20.heap.size ≤ w21.heap.size) := ⟨by have h_ := hb.size; (try simp at h_); omega⟩; have CCn_ := Aside0.mk (And.intro CC.out C652.out); clear CC; have CC := CCn_; clear CCn_; clear HO79; clear HO81; clear HO119; clear HO121; clear HO144; clear HO146; clear HO175; clear HO177; clear HO611; clear HO613; clear HX1; clear HX2; clear HX95; clear HX141; clear HX172; clear HX209; clear HB; clear hl615; clear hx616; clear hx617; clear hx618; clear hx619; clear hx620; clear hl621; clear hx622; clear hx623; clear hx624; clear hx625; clear hx626; clear hl627; clear hx628; clear hx629; clear hx630; clear hx631; clear hx632; clear hl633; clear hx634; clear hx635; clear hx636; clear hx637; clear hx638; clear hl639; clear hx640; clear hx641; clear hx642; clear hx643; clear hx644; clear hl645; clear hx646; clear hx647; clear hx648; clear hx649; clear hx650; have HO79 := n1_; clear n1_; have HO81 := n2_; clear n2_; have HO119 := n3_; clear n3_; have HO121 := n4_; clear n4_; have HO144 := n5_; clear n5_; have HO146 := n6_; clear n6_; have HO175 := n7_; clear n7_; have HO177 := n8_; clear n8_; have HO611 := n9_; clear n9_; have HO613 := n10_; clear n10_; have HX1 := n11_; clear n11_; have HX2 := n12_; clear n12_; have HX95 := n13_; clear n13_; have HX141 := n14_; clear n14_; have HX172 := n15_; clear n15_; have HX209 := n16_; clear n16_; have HB := n17_; clear n17_; have HO653 := Aside0.mk (Kd.R_lower (base' := w.heap.size) (Kd.R_mono (Kd.R_bound (Kd.R_tight rfl ho0_)) (ok' := fun k_ => (w20.heap.size ≤ k_ ∧ k_ < w21.heap.size) ∧ some k_ = (v100_ : Value).ownBlock) (fun k_ hk_ => ⟨⟨by have h_ := hk_.2.1; (try simp at h_); omega, hk_.2.2.1⟩, hk_.1⟩)) (by have := CC.out; first | omega | (simp; done) | (simp; omega))); obtain ⟨Az654, cz654, ez654⟩ := Kd.R_slice HO653.out; subst ez654; have HO655 := Aside0.mk (Kd.S_lower (base' := w.heap.size) (Kd.S_mono (Kd.S_bound ho1_) (ok' := fun k_ => (w20.heap.size ≤ k_ ∧ k_ < w21.heap.size) ∧ some k_ ≠ (.slice Az654 l1_1.length cz654 : Value).ownBlock) (fun k_ hk_ => ⟨⟨by have h_ := hk_.2.1; (try simp at h_); omega, hk_.2.2.1⟩, hk_.1⟩)) (by have := CC.out; first | omega | (simp; done) | (simp; omega))); obtain ⟨Az656, cz656, ez656⟩ := Kd.S_slice HO655.out; subst ez656; (try clear hb); (try clear ho0_); (try clear ho1_); have hl657 : w.heap.size < w21.heap.size := blk_lt HX1.out; obtain ⟨hx658, hx659, hx660, hx661, hx662, _⟩ := box5 HX1.out; have hl663 : w.heap.size + 1 < w21.heap.size := blk_lt HX2.out; obtain ⟨hx664, hx665, hx666, hx667, hx668, _⟩ := box5 HX2.out; have hl669 : gC96 < w21.heap.size := blk_lt HX95.out; obtain ⟨hx670, hx671, hx672, hx673, hx674, _⟩ := box5 HX95.out; have hl675 : w7.heap.size < w21.heap.size := blk_lt HX141.out; obtain ⟨hx676, hx677, hx678, hx679, hx680, _⟩ := box5 HX141.out; have hl681 : w8.heap.size < w21.heap.size := blk_lt HX172.out; obtain ⟨hx682, hx683, hx684, hx685, hx686, _⟩ := box5 HX172.out; have hl687 : w9.heap.size < w21.heap.size := blk_lt HX209.out; obtain ⟨hx688, hx689, hx690, hx691, hx692, _⟩ := box5 HX209.out) | (go_at_call 42; (with_reducible refine (impl_EitherScheme.calls k a0_0 _ _ l0_1 a0_2 a0_3 _ _ l0_4 a1_0 _ _ l1_1 a1_2 a1_3 _ _ l1_4 r71 r72 r73 r74 r75 r76 _ ?side1 ?side2 ?side3 ?side4 ?side5 ?side6 ?side7 ?side8 A693.out).mono ?_); (case side1 => exact (Kd.R_reads' (n := l0_1.length) (A := Az612) (c := cz612) (by (with_reducible repeat (first | apply Kd.R_alloc | apply Kd.R_drewN | apply Kd.R_drew)); exact HO611.out)).2.2); (case side2 => exact (Kd.R_reads' (n := l0_1.length) (A := Az612) (c := cz612) HO611.out).2.1); (case side3 => exact (Kd.S_reads' (n := l0_4.length) (A := Az614) (c := cz614) (by (with_reducible repeat (first | apply Kd.S_alloc | apply Kd.S_drewN | apply Kd.S_drew)); exact HO613.out)).2.2); (case side4 => exact (Kd.S_reads' (n := l0_4.length) (A := Az614) (c := cz614) HO613.out).2.1); (case side5 => exact (Kd.R_reads' (n := l1_1.length) (A := Az654) (c := cz654) (by (with_reducible repeat (first | apply Kd.R_alloc | apply Kd.R_drewN | apply Kd.R_drew)); exact HO653.out)).2.2); (case side6 => exact (Kd.R_reads' (n := l1_1.length) (A := Az654) (c := cz654) HO653.out).2.1); (case side7 => exact (Kd.S_reads' (n := l1_4.length) (A := Az656) (c := cz656) (by (with_reducible repeat (first | apply Kd.S_alloc | apply Kd.S_drewN | apply Kd.S_drew)); exact HO655.out)).2.2); (case side8 => exact (Kd.S_reads' (n := l1_4.length) (A := Az656) (c := cz656) HO655.out).2.1); rintro e w22 ⟨v100_, v101_, rfl, ho0_, ho1_, hb⟩; have n1_ := Aside0.mk (Kd.R_below (by (with_reducible repeat (first | apply Kd.R_alloc | apply Kd.R_drewN | apply Kd.R_drew)); exact HO79.out) hb); have n2_ := Aside0.mk (Kd.S_below (by (with_reducible repeat (first | apply Kd.S_alloc | apply Kd.S_drewN | apply Kd.S_drew)); exact HO81.out) hb); have n3_ := Aside0.mk (Kd.R_below (by (with_reducible repeat (first | apply Kd.R_alloc | apply Kd.R_drewN | apply Kd.R_drew)); exact HO119.out) hb); have n4_ := Aside0.mk (Kd.S_below (by (with_reducible repeat (first | apply Kd.S_alloc | apply Kd.S_drewN | apply Kd.S_drew)); exact HO121.out) hb); have n5_ := Aside0.mk (Kd.R_below (by (with_reducible repeat (first | apply Kd.R_alloc | apply Kd.R_drewN | apply Kd.R_drew)); exact HO144.out) hb); have n6_ := Aside0.mk (Kd.S_below (by (with_reducible repeat (first | apply Kd.S_alloc | apply Kd.S_drewN | apply Kd.S_drew)); exact HO146.out) hb); have n7_ := Aside0.mk (Kd.R_below (by (with_reducible repeat (first | apply Kd.R_alloc | apply Kd.R_drewN | apply Kd.R_drew)); exact HO175.out) hb); have n8_ := Aside0.mk (Kd.S_below (by (with_reducible repeat (first | apply Kd.S_alloc | apply Kd.S_drewN | apply Kd.S_drew)); exact HO177.out) hb); have n9_ := Aside0.mk (Kd.R_below (by (with_reducible repeat (first | apply Kd.R_alloc | apply Kd.R_drewN | apply Kd.R_drew)); exact HO611.out) hb); have n10_ := Aside0.mk (Kd.S_below (by (with_reducible repeat (first | apply Kd.S_alloc | apply Kd.S_drewN | apply Kd.S_drew)); exact HO613.out) hb); have n11_ := Aside0.mk (Kd.R_below (by (with_reducible repeat (first | apply Kd.R_alloc | apply Kd.R_drewN | apply Kd.R_drew)); exact HO653.out) hb); have n12_ := Aside0.mk (Kd.S_below (by (with_reducible repeat (first | apply Kd.S_alloc | apply Kd.S_drewN | apply Kd.S_drew)); exact HO655.out) hb); (try clear hzc0_); (try clear hzf0_); (try clear hzc1_); (try clear hzf1_); (try clear hzc2_); (try clear hzf2_); (try clear hzc3_); (try clear hzf3_); (try clear hzc4_); (try clear hzf4_); (try clear hzl_); (first | (have hzn_ := Aside0.mk (blk_below (g := w21.heap.size) (o := .cells #[(.int .i64 0 : Value), (.slice none 0 0 : Value), (.int .i64 0 : Value), (.int .i64 0 : Value), (.slice none 0 0 : Value)] 53 (0, 0)) (by exact blk_new_at (by simp)) hb)) | (have hzn_ := Aside0.mk (blk_below (o := .cells #[(.int .i64 0 : Value), (.slice none 0 0 : Value), (.int .i64 0 : Value), (.int .i64 0 : Value), (.slice none 0 0 : Value)] 53 (0, 0)) hz_.out hb); clear hz_) | skip); (try (have hz_ := hzn_; clear hzn_)); (try have hzc0_ : w22.cell? ⟨_, 0, none⟩ = some ((.int .i64 0 : Value)) := (blk_cell hz_.out 0).trans rfl); (try have hzf0_ := blk_frozen hz_.out 0); (try have hzc1_ : w22.cell? ⟨_, 1, none⟩ = some ((.slice none 0 0 : Value)) := (blk_cell hz_.out 1).trans rfl); (try have hzf1_ := blk_frozen hz_.out 1); (try have hzc2_ : w22.cell? ⟨_, 2, none⟩ = some ((.int .i64 0 : Value)) := (blk_cell hz_.out 2).trans rfl); (try have hzf2_ := blk_frozen hz_.out 2); (try have hzc3_ : w22.cell? ⟨_, 3, none⟩ = some ((.int .i64 0 : Value)) := (blk_cell hz_.out 3).trans rfl); (try have hzf3_ := blk_frozen hz_.out 3); (try have hzc4_ : w22.cell? ⟨_, 4, none⟩ = some ((.slice none 0 0 : Value)) := (blk_cell hz_.out 4).trans rfl); (try have hzf4_ := blk_frozen hz_.out 4); (try have hzl_ := blk_lt hz_.out); have n13_ := Aside0.mk (blk_below (g := w.heap.size) (o := .cells #[.int .i64 a0_0, .slice A0_1 l0_1.length c0_1, .int .i64 a0_2, .int .i64 a0_3, .slice A0_4 l0_4.length c0_4] 50 (0, 0)) (by (with_reducible repeat (first | refine blk_drewN ?_ _ | refine blk_drew ?_ | refine blk_alloc ?_ _)); exact HX1.out) hb); have n14_ := Aside0.mk (blk_below (g := w.heap.size + 1) (o := .cells #[.int .i64 a1_0, .slice A1_1 l1_1.length c1_1, .int .i64 a1_2, .int .i64 a1_3, .slice A1_4 l1_4.length c1_4] 50 (0, 0)) (by (with_reducible repeat (first | refine blk_drewN ?_ _ | refine blk_drew ?_ | refine blk_alloc ?_ _)); exact HX2.out) hb); have n15_ := Aside0.mk (blk_below (g := gC96) (o := .cells #[.int .i64 r71, .slice Az80 r72.length cz80, .int .i64 r73, .int .i64 r74, .slice Az82 r75.length cz82] 53 (0, 0)) (by (with_reducible repeat (first | refine blk_drewN ?_ _ | refine blk_drew ?_ | refine blk_alloc ?_ _)); exact HX95.out) hb); have n16_ := Aside0.mk (blk_below (g := w7.heap.size) (o := .cells #[.int .i64 a0_0, .slice Az120 l0_1.length cz120, .int .i64 a0_2, .int .i64 a0_3, .slice Az122 l0_4.length cz122] 53 (0, 0)) (by (with_reducible repeat (first | refine blk_drewN ?_ _ | refine blk_drew ?_ | refine blk_alloc ?_ _)); exact HX141.out) hb); have n17_ := Aside0.mk (blk_below (g := w8.heap.size) (o := .cells #[.int .i64 a1_0, .slice Az145 l1_1.length cz145, .int .i64 a1_2, .int .i64 a1_3, .slice Az147 l1_4.length cz147] 53 (0, 0)) (by (with_reducible repeat (first | refine blk_drewN ?_ _ | refine blk_drew ?_ | refine blk_alloc ?_ _)); exact HX172.out) hb); have n18_ := Aside0.mk (blk_below (g := w9.heap.size) (o := .cells #[.int .i64 r71, .slice Az176 r72.length cz176, .int .i64 r73, .int .i64 r74, .slice Az178 r75.length cz178] 53 (0, 0)) (by (with_reducible repeat (first | refine blk_drewN ?_ _ | refine blk_drew ?_ | refine blk_alloc ?_ _)); exact HX209.out) hb); have n19_ := Aside0.mk (below_step (by repeat (first | (with_reducible first | exact HB.out | apply below_alloc | apply pw_below_drewN | apply below_drew1) | exact HB.out)) hb); have C694 : Aside0 (w21.heap.size ≤ w22.heap.size) := ⟨by have h_ := hb.size; (try simp at h_); omega⟩; have CCn_ := Aside0.mk (And.intro CC.out C694.out); clear CC; have CC := CCn_; clear CCn_; clear HO79; clear HO81; clear HO119; clear HO121; clear HO144; clear HO146; clear HO175; clear HO177; clear HO611; clear HO613; clear HO653; clear HO655; clear HX1; clear HX2; clear HX95; clear HX141; clear HX172; clear HX209; clear HB; clear hl657; clear hx658; clear hx659; clear hx660; clear hx661; clear hx662; clear hl663; clear hx664; clear hx665; clear hx666; clear hx667; clear hx668; clear hl669; clear hx670; clear hx671; clear hx672; clear hx673; clear hx674; clear hl675; clear hx676; clear hx677; clear hx678; clear hx679; clear hx680; clear hl681; clear hx682; clear hx683; clear hx684; clear hx685; clear hx686; clear hl687; clear hx688; clear hx689; clear hx690; clear hx691; clear hx692; have HO79 := n1_; clear n1_; have HO81 := n2_; clear n2_; have HO119 := n3_; clear n3_; have HO121 := n4_; clear n4_; have HO144 := n5_; clear n5_; have HO146 := n6_; clear n6_; have HO175 := n7_; clear n7_; have HO177 := n8_; clear n8_; have HO611 := n9_; clear n9_; have HO613 := n10_; clear n10_; have HO653 := n11_; clear n11_; have HO655 := n12_; clear n12_; have HX1 := n13_; clear n13_; have HX2 := n14_; clear n14_; have HX95 := n15_; clear n15_; have HX141 := n16_; clear n16_; have HX172 := n17_; clear n17_; have HX209 := n18_; clear n18_; have HB := n19_; clear n19_; have HO695 := Aside0.mk (Kd.R_lower (base' := w.heap.size) (Kd.R_mono (Kd.R_bound (Kd.R_tight rfl ho0_)) (ok' := fun k_ => (w21.heap.size ≤ k_ ∧ k_ < w22.heap.size) ∧ some k_ = (v100_ : Value).ownBlock) (fun k_ hk_ => ⟨⟨by have h_ := hk_.2.1; (try simp at h_); omega, hk_.2.2.1⟩, hk_.1⟩)) (by have := CC.out; first | omega | (simp; done) | (simp; omega))); obtain ⟨Az696, cz696, ez696⟩ := Kd.R_slice HO695.out; subst ez696; have HO697 := Aside0.mk (Kd.S_lower (base' := w.heap.size) (Kd.S_mono (Kd.S_bound ho1_) (ok' := fun k_ => (w21.heap.size ≤ k_ ∧ k_ < w22.heap.size) ∧ some k_ ≠ (.slice Az696 r72.length cz696 : Value).ownBlock) (fun k_ hk_ => ⟨⟨by have h_ := hk_.2.1; (try simp at h_); omega, hk_.2.2.1⟩, hk_.1⟩)) (by have := CC.out; first | omega | (simp; done) | (simp; omega))); obtain ⟨Az698, cz698, ez698⟩ := Kd.S_slice HO697.out; subst ez698; (try clear hb); (try clear ho0_); (try clear ho1_); have hl699 : w.heap.size < w22.heap.size := blk_lt HX1.out; obtain ⟨hx700, hx701, hx702, hx703, hx704, _⟩ := box5 HX1.out; have hl705 : w.heap.size + 1 < w22.heap.size := blk_lt HX2.out; obtain ⟨hx706, hx707, hx708, hx709, hx710, _⟩ := box5 HX2.out; have hl711 : gC96 < w22.heap.size := blk_lt HX95.out; obtain ⟨hx712, hx713, hx714, hx715, hx716, _⟩ := box5 HX95.out; have hl717 : w7.heap.size < w22.heap.size := blk_lt HX141.out; obtain ⟨hx718, hx719, hx720, hx721, hx722, _⟩ := box5 HX141.out; have hl723 : w8.heap.size < w22.heap.size := blk_lt HX172.out; obtain ⟨hx724, hx725, hx726, hx727, hx728, _⟩ := box5 HX172.out; have hl729 : w9.heap.size < w22.heap.size := blk_lt HX209.out; obtain ⟨hx730, hx731, hx732, hx733, hx734, _⟩ := box5 HX209.out))
  all_goals (go_wp2_with fail; go_meet; first | (have hq_ := hz_.out; clear hq_; exact ⟨_, _, _, _, _, rfl, rfl, ⟨Kd.R_mono (Kd.R_set (Kd.R_set (Kd.R_set (Kd.R_set (Kd.R_set (HO695.out) (hz_.out) (by decide) 0 _) (blk_set (hz_.out) 0 _) (by decide) 1 _) (blk_set (blk_set (hz_.out) 0 _) 1 _) (by decide) 2 _) (blk_set (blk_set (blk_set (hz_.out) 0 _) 1 _) 2 _) (by decide) 3 _) (blk_set (blk_set (blk_set (blk_set (hz_.out) 0 _) 1 _) 2 _) 3 _) (by decide) 4 _) (fun k_ hk0_ => have hk_ := hk0_.1; ⟨by have := CC.out; have h1_ := hk_.1; omega, by rw [size_set, size_set, size_set, size_set, size_set]; exact hk_.2⟩)⟩, ⟨Kd.S_mono (Kd.S_set (Kd.S_set (Kd.S_set (Kd.S_set (Kd.S_set (HO697.out) (hz_.out) (by decide) 0 _) (blk_set (hz_.out) 0 _) (by decide) 1 _) (blk_set (blk_set (hz_.out) 0 _) 1 _) (by decide) 2 _) (blk_set (blk_set (blk_set (hz_.out) 0 _) 1 _) 2 _) (by decide) 3 _) (blk_set (blk_set (blk_set (blk_set (hz_.out) 0 _) 1 _) 2 _) 3 _) (by decide) 4 _) (fun k_ hk0_ => have hk_ := hk0_.1; ⟨by have := CC.out; have h1_ := hk_.1; omega, by rw [size_set, size_set, size_set, size_set, size_set]; exact hk_.2⟩)⟩, ⟨blk_put (blk_put (blk_put (blk_put (blk_put (hz_.out) 0 _ rfl) 1 _ rfl) 2 _ rfl) 3 _ rfl) 4 _ rfl⟩, ⟨Kd.R_set (Kd.R_set (Kd.R_set (Kd.R_set (Kd.R_set (HO79.out) (hz_.out) (by decide) 0 _) (blk_set (hz_.out) 0 _) (by decide) 1 _) (blk_set (blk_set (hz_.out) 0 _) 1 _) (by decide) 2 _) (blk_set (blk_set (blk_set (hz_.out) 0 _) 1 _) 2 _) (by decide) 3 _) (blk_set (blk_set (blk_set (blk_set (hz_.out) 0 _) 1 _) 2 _) 3 _) (by decide) 4 _⟩, ⟨Kd.S_set (Kd.S_set (Kd.S_set (Kd.S_set (Kd.S_set (HO81.out) (hz_.out) (by decide) 0 _) (blk_set (hz_.out) 0 _) (by decide) 1 _) (blk_set (blk_set (hz_.out) 0 _) 1 _) (by decide) 2 _) (blk_set (blk_set (blk_set (hz_.out) 0 _) 1 _) 2 _) (by decide) 3 _) (blk_set (blk_set (blk_set (blk_set (hz_.out) 0 _) 1 _) 2 _) 3 _) (by decide) 4 _⟩, ⟨Kd.R_set (Kd.R_set (Kd.R_set (Kd.R_set (Kd.R_set (HO119.out) (hz_.out) (by decide) 0 _) (blk_set (hz_.out) 0 _) (by decide) 1 _) (blk_set (blk_set (hz_.out) 0 _) 1 _) (by decide) 2 _) (blk_set (blk_set (blk_set (hz_.out) 0 _) 1 _) 2 _) (by decide) 3 _) (blk_set (blk_set (blk_set (blk_set (hz_.out) 0 _) 1 _) 2 _) 3 _) (by decide) 4 _⟩, ⟨Kd.S_set (Kd.S_set (Kd.S_set (Kd.S_set (Kd.S_set (HO121.out) (hz_.out) (by decide) 0 _) (blk_set (hz_.out) 0 _) (by decide) 1 _) (blk_set (blk_set (hz_.out) 0 _) 1 _) (by decide) 2 _) (blk_set (blk_set (blk_set (hz_.out) 0 _) 1 _) 2 _) (by decide) 3 _) (blk_set (blk_set (blk_set (blk_set (hz_.out) 0 _) 1 _) 2 _) 3 _) (by decide) 4 _⟩, ⟨Kd.R_set (Kd.R_set (Kd.R_set (Kd.R_set (Kd.R_set (HO144.out) (hz_.out) (by decide) 0 _) (blk_set (hz_.out) 0 _) (by decide) 1 _) (blk_set (blk_set (hz_.out) 0 _) 1 _) (by decide) 2 _) (blk_set (blk_set (blk_set (hz_.out) 0 _) 1 _) 2 _) (by decide) 3 _) (blk_set (blk_set (blk_set (blk_set (hz_.out) 0 _) 1 _) 2 _) 3 _) (by decide) 4 _⟩, ⟨Kd.S_set (Kd.S_set (Kd.S_set (Kd.S_set (Kd.S_set (HO146.out) (hz_.out) (by decide) 0 _) (blk_set (hz_.out) 0 _) (by decide) 1 _) (blk_set (blk_set (hz_.out) 0 _) 1 _) (by decide) 2 _) (blk_set (blk_set (blk_set (hz_.out) 0 _) 1 _) 2 _) (by decide) 3 _) (blk_set (blk_set (blk_set (blk_set (hz_.out) 0 _) 1 _) 2 _) 3 _) (by decide) 4 _⟩, ⟨Kd.R_set (Kd.R_set (Kd.R_set (Kd.R_set (Kd.R_set (HO175.out) (hz_.out) (by decide) 0 _) (blk_set (hz_.out) 0 _) (by decide) 1 _) (blk_set (blk_set (hz_.out) 0 _) 1 _) (by decide) 2 _) (blk_set (blk_set (blk_set (hz_.out) 0 _) 1 _) 2 _) (by decide) 3 _) (blk_set (blk_set (blk_set (blk_set (hz_.out) 0 _) 1 _) 2 _) 3 _) (by decide) 4 _⟩, ⟨Kd.S_set (Kd.S_set (Kd.S_set (Kd.S_set (Kd.S_set (HO177.out) (hz_.out) (by decide) 0 _) (blk_set (hz_.out) 0 _) (by decide) 1 _) (blk_set (blk_set (hz_.out) 0 _) 1 _) (by decide) 2 _) (blk_set (blk_set (blk_set (hz_.out) 0 _) 1 _) 2 _) (by decide) 3 _) (blk_set (blk_set (blk_set (blk_set (hz_.out) 0 _) 1 _) 2 _) 3 _) (by decide) 4 _⟩, ⟨blk_far (p := ⟨_, 4, none⟩) (blk_far (p := ⟨_, 3, none⟩) (blk_far (p := ⟨_, 2, none⟩) (blk_far (p := ⟨_, 1, none⟩) (blk_far (p := ⟨_, 0, none⟩) (HX1.out) (by have := CC.out; dsimp only; omega) _) (by have := CC.out; dsimp only; omega) _) (by have := CC.out; dsimp only; omega) _) (by have := CC.out; dsimp only; omega) _) (by have := CC.out; dsimp only; omega) _⟩, ⟨blk_far (p := ⟨_, 4, none⟩) (blk_far (p := ⟨_, 3, none⟩) (blk_far (p := ⟨_, 2, none⟩) (blk_far (p := ⟨_, 1, none⟩) (blk_far (p := ⟨_, 0, none⟩) (HX2.out) (by have := CC.out; dsimp only; omega) _) (by have := CC.out; dsimp only; omega) _) (by have := CC.out; dsimp only; omega) _) (by have := CC.out; dsimp only; omega) _) (by have := CC.out; dsimp only; omega) _⟩, ⟨blk_far (p := ⟨_, 4, none⟩) (blk_far (p := ⟨_, 3, none⟩) (blk_far (p := ⟨_, 2, none⟩) (blk_far (p := ⟨_, 1, none⟩) (blk_far (p := ⟨_, 0, none⟩) (HX95.out) (by have := CC.out; dsimp only; omega) _) (by have := CC.out; dsimp only; omega) _) (by have := CC.out; dsimp only; omega) _) (by have := CC.out; dsimp only; omega) _) (by have := CC.out; dsimp only; omega) _⟩, ⟨blk_far (p := ⟨_, 4, none⟩) (blk_far (p := ⟨_, 3, none⟩) (blk_far (p := ⟨_, 2, none⟩) (blk_far (p := ⟨_, 1, none⟩) (blk_far (p := ⟨_, 0, none⟩) (HX141.out) (by have := CC.out; dsimp only; omega) _) (by have := CC.out; dsimp only; omega) _) (by have := CC.out; dsimp only; omega) _) (by have := CC.out; dsimp only; omega) _) (by have := CC.out; dsimp only; omega) _⟩, ⟨blk_far (p := ⟨_, 4, none⟩) (blk_far (p := ⟨_, 3, none⟩) (blk_far (p := ⟨_, 2, none⟩) (blk_far (p := ⟨_, 1, none⟩) (blk_far (p := ⟨_, 0, none⟩) (HX172.out) (by have := CC.out; dsimp only; omega) _) (by have := CC.out; dsimp only; omega) _) (by have := CC.out; dsimp only; omega) _) (by have := CC.out; dsimp only; omega) _) (by have := CC.out; dsimp only; omega) _⟩, ⟨blk_far (p := ⟨_, 4, none⟩) (blk_far (p := ⟨_, 3, none⟩) (blk_far (p := ⟨_, 2, none⟩) (blk_far (p := ⟨_, 1, none⟩) (blk_far (p := ⟨_, 0, none⟩) (HX209.out) (by have := CC.out; dsimp only; omega) _) (by have := CC.out; dsimp only; omega) _) (by have := CC.out; dsimp only; omega) _) (by have := CC.out; dsimp only; omega) _) (by have := CC.out; dsimp only; omega) _⟩, ⟨below_set (below_set (below_set (below_set (below_set (HB.out) (by have := CC.out; omega)) (by have := CC.out; omega)) (by have := CC.out; omega)) (by have := CC.out; omega)) (by have := CC.out; omega)⟩, ⟨by rw [size_set, size_set, size_set, size_set, size_set]; have := CC.out; omega⟩⟩) | exact ⟨_, _, _, _, _, rfl, rfl, ⟨Kd.R_mono (Kd.R_alloc HO695.out _) (fun k_ hk0_ => have hk_ := hk0_.1; ⟨by have := CC.out; have h1_ := hk_.1; omega, lt_alloc hk_.2⟩)⟩, ⟨Kd.S_mono (Kd.S_alloc HO697.out _) (fun k_ hk0_ => have hk_ := hk0_.1; ⟨by have := CC.out; have h1_ := hk_.1; omega, lt_alloc hk_.2⟩)⟩, ⟨blk_new _ _⟩, ⟨Kd.R_alloc HO79.out _⟩, ⟨Kd.S_alloc HO81.out _⟩, ⟨Kd.R_alloc HO119.out _⟩, ⟨Kd.S_alloc HO121.out _⟩, ⟨Kd.R_alloc HO144.out _⟩, ⟨Kd.S_alloc HO146.out _⟩, ⟨Kd.R_alloc HO175.out _⟩, ⟨Kd.S_alloc HO177.out _⟩, ⟨blk_alloc HX1.out _⟩, ⟨blk_alloc HX2.out _⟩, ⟨blk_alloc HX95.out _⟩, ⟨blk_alloc HX141.out _⟩, ⟨blk_alloc HX172.out _⟩, ⟨blk_alloc HX209.out _⟩, ⟨below_alloc HB.out _⟩, ⟨le_alloc (by have := CC.out; omega)⟩⟩)
 case rest =>
 (try clear hl572)
 (try clear hx573)
 (try clear hx574)
 (try clear hx575)
 (try clear hx576)
 (try clear hx577)
 (try clear hl578)
 (try clear hx579)
 (try clear hx580)
 (try clear hx581)
 (try clear hx582)
 (try clear hx583)
 (try clear hl584)
 (try clear hx585)
 (try clear hx586)
 (try clear hx587)
 (try clear hx588)
 (try clear hx589)
 (try clear hl590)
 (try clear hx591)
 (try clear hx592)
 (try clear hx593)
 (try clear hx594)
 (try clear hx595)
 (try clear hl596)
 (try clear hx597)
 (try clear hx598)
 (try clear hx599)
 (try clear hx600)
 (try clear hx601)
 (try clear hl602)
 (try clear hx603)
 (try clear hx604)
 (try clear hx605)
 (try clear hx606)
 (try clear hx607)
 (try clear HO79)
 (try clear HO81)
 (try clear HO119)
 (try clear HO121)
 (try clear HO144)
 (try clear HO146)
 (try clear HO175)
 (try clear HO177)
 (try clear HX1)
 (try clear HX2)
 (try clear HX95)
 (try clear HX141)
 (try clear HX172)
 (try clear HX209)
 (try clear HB)
 obtain ⟨gC736, Az696, cz696, Az698, cz698, rfl, rfl, HO695, HO697, HX735, HO79, HO81, HO119, HO121, HO144, HO146, HO175, HO177, HX1, HX2, HX95, HX141, HX172, HX209, HB, C737⟩ := hcut
 rename World => w23
 have C738 : Aside0 (gC736 + 1 ≤ w23.heap.size) := ⟨blk_lt HX735.out⟩
 have CCn_ := Aside0.mk (And.intro CC.out C737.out)
 clear CC
 have CC := CCn_
 clear CCn_
 have CCn_ := Aside0.mk (And.intro CC.out C738.out)
 clear CC
 have CC := CCn_
 clear CCn_
 have hl739 : w.heap.size < w23.heap.size := blk_lt HX1.out
 obtain ⟨hx740, hx741, hx742, hx743, hx744, _⟩ := box5 HX1.out
 have hl745 : w.heap.size + 1 < w23.heap.size := blk_lt HX2.out
 obtain ⟨hx746, hx747, hx748, hx749, hx750, _⟩ := box5 HX2.out
 have hl751 : gC96 < w23.heap.size := blk_lt HX95.out
 obtain ⟨hx752, hx753, hx754, hx755, hx756, _⟩ := box5 HX95.out
 have hl757 : w7.heap.size < w23.heap.size := blk_lt HX141.out
 obtain ⟨hx758, hx759, hx760, hx761, hx762, _⟩ := box5 HX141.out
 have hl763 : w8.heap.size < w23.heap.size := blk_lt HX172.out
 obtain ⟨hx764, hx765, hx766, hx767, hx768, _⟩ := box5 HX172.out
 have hl769 : w9.heap.size < w23.heap.size := blk_lt HX209.out
 obtain ⟨hx770, hx771, hx772, hx773, hx774, _⟩ := box5 HX209.out
 have hl775 : gC736 < w23.heap.size := blk_lt HX735.out
 obtain ⟨hx776, hx777, hx778, hx779, hx780, _⟩ := box5 HX735.out
 go_wp2_with (first | ((with_reducible refine gate_callee (f := 43) rfl ?_); refine goesL_ (some 104) rfl rfl Try.func43 (by kernel_rfl) rfl #[.agg #[.int .i64 r71, .slice Az696 r72.length cz696, .int .i64 r73, .int .i64 r74, .slice Az698 r75.length cz698], .agg #[.int .i64 r71, .slice Az80 r72.length cz80, .int .i64 r73, .int .i64 r74, .slice Az82 r75.length cz82]] rfl (by (try simp only [List.map_toArray, List.map_cons, List.map_nil]); first | done | rfl | (simp only [List.length_drop, List.length_take]; rfl)) ?_; (with_reducible refine (laws_eqScheme.calls k r71 _ _ r72 r73 r74 _ _ r75 r71 _ _ r72 r73 r74 _ _ r75 true _ ?side1 ?side2 ?side3 ?side4 ?side5 ?side6 ?side7 ?side8 A781.out).mono ?_); (case side1 => exact (Kd.R_reads' (n := r72.length) (A := Az696) (c := cz696) HO695.out).2.2); (case side2 => exact (Kd.R_reads' (n := r72.length) (A := Az696) (c := cz696) HO695.out).2.1); (case side3 => exact (Kd.S_reads' (n := r75.length) (A := Az698) (c := cz698) HO697.out).2.2); (case side4 => exact (Kd.S_reads' (n := r75.length) (A := Az698) (c := cz698) HO697.out).2.1); (case side5 => exact (Kd.R_reads' (n := r72.length) (A := Az80) (c := cz80) HO79.out).2.2); (case side6 => exact (Kd.R_reads' (n := r72.length) (A := Az80) (c := cz80) HO79.out).2.1); (case side7 => exact (Kd.S_reads' (n := r75.length) (A := Az82) (c := cz82) HO81.out).2.2); (case side8 => exact (Kd.S_reads' (n := r75.length) (A := Az82) (c := cz82) HO81.out).2.1); rintro e w24 ⟨rfl, hb⟩; refine ⟨_, rfl, ?_⟩; have n1_ := Aside0.mk (Kd.R_below HO79.out hb); have n2_ := Aside0.mk (Kd.S_below HO81.out hb); have n3_ := Aside0.mk (Kd.R_below HO119.out hb); have n4_ := Aside0.mk (Kd.S_below HO121.out hb); have n5_ := Aside0.mk (Kd.R_below HO144.out hb); have n6_ := Aside0.mk (Kd.S_below HO146.out hb); have n7_ := Aside0.mk (Kd.R_below HO175.out hb); have n8_ := Aside0.mk (Kd.S_below HO177.out hb); have n9_ := Aside0.mk (Kd.R_below HO695.out hb); have n10_ := Aside0.mk (Kd.S_below HO697.out hb); have n11_ := Aside0.mk (blk_below HX1.out hb); have n12_ := Aside0.mk (blk_below HX2.out hb); have n13_ := Aside0.mk (blk_below HX95.out hb); have n14_ := Aside0.mk (blk_below HX141.out hb); have n15_ := Aside0.mk (blk_below HX172.out hb); have n16_ := Aside0.mk (blk_below HX209.out hb); have n17_ := Aside0.mk (blk_below HX735.out hb); have n18_ := Aside0.mk (below_step HB.out hb); have C782 : Aside0 (w23.heap.size ≤ w24.heap.size) := ⟨by have h_ := hb.size; (try simp at h_); omega⟩; have CCn_ := Aside0.mk (And.intro CC.out C782.out); clear CC; have CC := CCn_; clear CCn_; clear HO79; clear HO81; clear HO119; clear HO121; clear HO144; clear HO146; clear HO175; clear HO177; clear HO695; clear HO697; clear HX1; clear HX2; clear HX95; clear HX141; clear HX172; clear HX209; clear HX735; clear HB; clear hl739; clear hx740; clear hx741; clear hx742; clear hx743; clear hx744; clear hl745; clear hx746; clear hx747; clear hx748; clear hx749; clear hx750; clear hl751; clear hx752; clear hx753; clear hx754; clear hx755; clear hx756; clear hl757; clear hx758; clear hx759; clear hx760; clear hx761; clear hx762; clear hl763; clear hx764; clear hx765; clear hx766; clear hx767; clear hx768; clear hl769; clear hx770; clear hx771; clear hx772; clear hx773; clear hx774; clear hl775; clear hx776; clear hx777; clear hx778; clear hx779; clear hx780; have HO79 := n1_; clear n1_; have HO81 := n2_; clear n2_; have HO119 := n3_; clear n3_; have HO121 := n4_; clear n4_; have HO144 := n5_; clear n5_; have HO146 := n6_; clear n6_; have HO175 := n7_; clear n7_; have HO177 := n8_; clear n8_; have HO695 := n9_; clear n9_; have HO697 := n10_; clear n10_; have HX1 := n11_; clear n11_; have HX2 := n12_; clear n12_; have HX95 := n13_; clear n13_; have HX141 := n14_; clear n14_; have HX172 := n15_; clear n15_; have HX209 := n16_; clear n16_; have HX735 := n17_; clear n17_; have HB := n18_; clear n18_; (try clear hb); have hl783 : w.heap.size < w24.heap.size := blk_lt HX1.out; obtain ⟨hx784, hx785, hx786, hx787, hx788, _⟩ := box5 HX1.out; have hl789 : w.heap.size + 1 < w24.heap.size := blk_lt HX2.out; obtain ⟨hx790, hx791, hx792, hx793, hx794, _⟩ := box5 HX2.out; have hl795 : gC96 < w24.heap.size := blk_lt HX95.out; obtain ⟨hx796, hx797, hx798, hx799, hx800, _⟩ := box5 HX95.out; have hl801 : w7.heap.size < w24.heap.size := blk_lt HX141.out; obtain ⟨hx802, hx803, hx804, hx805, hx806, _⟩ := box5 HX141.out; have hl807 : w8.heap.size < w24.heap.size := blk_lt HX172.out; obtain ⟨hx808, hx809, hx810, hx811, hx812, _⟩ := box5 HX172.out; have hl813 : w9.heap.size < w24.heap.size := blk_lt HX209.out; obtain ⟨hx814, hx815, hx816, hx817, hx818, _⟩ := box5 HX209.out; have hl819 : gC736 < w24.heap.size := blk_lt HX735.out; obtain ⟨hx820, hx821, hx822, hx823, hx824, _⟩ := box5 HX735.out) | ((with_reducible refine gate_callee (f := 45) rfl ?_); refine goesL_ (some 113) rfl rfl Try.func45 (by kernel_rfl) rfl #[.agg #[.int .i64 r71, .slice Az176 r72.length cz176, .int .i64 r73, .int .i64 r74, .slice Az178 r75.length cz178], .int .i64 1] rfl (by (try simp only [List.map_toArray, List.map_cons, List.map_nil]); first | done | rfl | (simp only [List.length_drop, List.length_take]; rfl)) ?_; (with_reducible refine (calls_as ?eq_ (laws_heldScheme.calls k r71 Az176 cz176 ys530 r73 r74 Az178 cz178 ys531 1 m529 _ ?side1 ?side2 ?side3 ?side4 A825.out)).mono ?_); (case eq_ => rw [show ys530.length = r72.length from (Kd.R_reads' HO175.out).1.symm, show ys531.length = r75.length from (Kd.S_reads' HO177.out).1.symm]); (case side1 => exact (Kd.R_reads' (n := r72.length) (A := Az176) (c := cz176) HO175.out).2.2); (case side2 => exact Nat.le_trans (Nat.le_of_eq (Kd.R_reads' HO175.out).1.symm) (Kd.R_reads' HO175.out).2.1); (case side3 => exact (Kd.S_reads' (n := r75.length) (A := Az178) (c := cz178) HO177.out).2.2); (case side4 => exact Nat.le_trans (Nat.le_of_eq (Kd.S_reads' HO177.out).1.symm) (Kd.S_reads' HO177.out).2.1); rintro e w25 ⟨rfl, hb⟩; refine ⟨_, rfl, ?_⟩; have n1_ := Aside0.mk (Kd.R_below HO79.out hb); have n2_ := Aside0.mk (Kd.S_below HO81.out hb); have n3_ := Aside0.mk (Kd.R_below HO119.out hb); have n4_ := Aside0.mk (Kd.S_below HO121.out hb); have n5_ := Aside0.mk (Kd.R_below HO144.out hb); have n6_ := Aside0.mk (Kd.S_below HO146.out hb); have n7_ := Aside0.mk (Kd.R_below HO175.out hb); have n8_ := Aside0.mk (Kd.S_below HO177.out hb); have n9_ := Aside0.mk (Kd.R_below HO695.out hb); have n10_ := Aside0.mk (Kd.S_below HO697.out hb); have n11_ := Aside0.mk (blk_below HX1.out hb); have n12_ := Aside0.mk (blk_below HX2.out hb); have n13_ := Aside0.mk (blk_below HX95.out hb); have n14_ := Aside0.mk (blk_below HX141.out hb); have n15_ := Aside0.mk (blk_below HX172.out hb); have n16_ := Aside0.mk (blk_below HX209.out hb); have n17_ := Aside0.mk (blk_below HX735.out hb); have n18_ := Aside0.mk (below_step HB.out hb); have C826 : Aside0 (w24.heap.size ≤ w25.heap.size) := ⟨by have h_ := hb.size; (try simp at h_); omega⟩; have CCn_ := Aside0.mk (And.intro CC.out C826.out); clear CC; have CC := CCn_; clear CCn_; clear HO79; clear HO81; clear HO119; clear HO121; clear HO144; clear HO146; clear HO175; clear HO177; clear HO695; clear HO697; clear HX1; clear HX2; clear HX95; clear HX141; clear HX172; clear HX209; clear HX735; clear HB; clear hl783; clear hx784; clear hx785; clear hx786; clear hx787; clear hx788; clear hl789; clear hx790; clear hx791; clear hx792; clear hx793; clear hx794; clear hl795; clear hx796; clear hx797; clear hx798; clear hx799; clear hx800; clear hl801; clear hx802; clear hx803; clear hx804; clear hx805; clear hx806; clear hl807; clear hx808; clear hx809; clear hx810; clear hx811; clear hx812; clear hl813; clear hx814; clear hx815; clear hx816; clear hx817; clear hx818; clear hl819; clear hx820; clear hx821; clear hx822; clear hx823; clear hx824; have HO79 := n1_; clear n1_; have HO81 := n2_; clear n2_; have HO119 := n3_; clear n3_; have HO121 := n4_; clear n4_; have HO144 := n5_; clear n5_; have HO146 := n6_; clear n6_; have HO175 := n7_; clear n7_; have HO177 := n8_; clear n8_; have HO695 := n9_; clear n9_; have HO697 := n10_; clear n10_; have HX1 := n11_; clear n11_; have HX2 := n12_; clear n12_; have HX95 := n13_; clear n13_; have HX141 := n14_; clear n14_; have HX172 := n15_; clear n15_; have HX209 := n16_; clear n16_; have HX735 := n17_; clear n17_; have HB := n18_; clear n18_; (try clear hb); have hl827 : w.heap.size < w25.heap.size := blk_lt HX1.out; obtain ⟨hx828, hx829, hx830, hx831, hx832, _⟩ := box5 HX1.out; have hl833 : w.heap.size + 1 < w25.heap.size := blk_lt HX2.out; obtain ⟨hx834, hx835, hx836, hx837, hx838, _⟩ := box5 HX2.out; have hl839 : gC96 < w25.heap.size := blk_lt HX95.out; obtain ⟨hx840, hx841, hx842, hx843, hx844, _⟩ := box5 HX95.out; have hl845 : w7.heap.size < w25.heap.size := blk_lt HX141.out; obtain ⟨hx846, hx847, hx848, hx849, hx850, _⟩ := box5 HX141.out; have hl851 : w8.heap.size < w25.heap.size := blk_lt HX172.out; obtain ⟨hx852, hx853, hx854, hx855, hx856, _⟩ := box5 HX172.out; have hl857 : w9.heap.size < w25.heap.size := blk_lt HX209.out; obtain ⟨hx858, hx859, hx860, hx861, hx862, _⟩ := box5 HX209.out; have hl863 : gC736 < w25.heap.size := blk_lt HX735.out; obtain ⟨hx864, hx865, hx866, hx867, hx868, _⟩ := box5 HX735.out))
 go_ret
 exact ⟨rfl, by repeat (first | (with_reducible first | exact HB.out | apply below_alloc | apply pw_below_drewN | apply below_drew1) | exact HB.out)⟩
end Go.Proofs.Ytjpbemomocccaaa.P

namespace Go.Proofs.Ytjpbemomocccaaa.P
open Go.RowKit Go.Proofs.YtjpbemomocccaaaW.PrintWords Go.Proofs.YtjpbemomocccaaaW.PrintLast Go.Proofs.YtjpbemomocccaaaW.PrintMore
attribute [local go_sem] max2_int min2_int max_two min_two max_three min_three max_four min_four
set_option linter.unusedVariables false
set_option linter.unusedSimpArgs false
section
variable {H : Type} {enc : TypeId × Value → H} {P : Program} {w : World} {base : Nat} {held : Bool} {α : Type}
def OpensAt (enc : TypeId × Value → H) (P : Program) (w : World) (base : Nat) (held : Bool) (n : Nat) (t : TypeId) (d : Kd α) (wf : α → Prop) : Prop :=
 ∀ cs x, DataW.trod enc P w base (fun _ => true) held n t cs = some x → ∃ a, d.K w a cs ∧ wf a
theorem opens_int (n : Nat) {t : TypeId} {k : IntKind} (ht : P.underlying t = some (.int k)) : OpensAt enc P w base held n t (Kd.int k) (fun a => (Lit.int k a).wf = true) := fun cs x h => by
 obtain ⟨a, rfl, _, hw⟩ := DataW.trod_int ht h
 exact ⟨a, rfl, hw⟩
theorem list_upto {Q : Nat → α → Prop} : ∀ n, (∀ i, i < n → ∃ y, Q i y) → ∃ xs : List α, xs.length = n ∧ ∀ (i : Nat) (y : α), xs[i]? = some y → Q i y
 | 0, _ => ⟨[], rfl, fun i y h => by simp at h⟩
 | n + 1, h => by
  obtain ⟨xs, hl, hx⟩ := list_upto n (fun i hi => h i (by omega))
  obtain ⟨y, hy⟩ := h n (by omega)
  refine ⟨xs ++ [y], by simp [hl], fun i z hz => ?_⟩
  by_cases e : i < xs.length
  ·rw [List.getElem?_append_left e] at hz
   exact hx i z hz
  ·rw [List.getElem?_append_right (by omega)] at hz
   have : i - xs.length = 0 := by
    have := (List.getElem?_eq_some_iff.1 hz).1
    simp at this
    omega
   rw [this] at hz
   obtain rfl : y = z := by simpa using hz
   obtain rfl : i = n := by omega
   exact hy
theorem opens_slice (n : Nat) {t e : TypeId} {d : Kd α} {wf : α → Prop} (ht : P.underlying t = some (.slice e)) (hc : P.cellsOf e = d.sz) (he : OpensAt enc P w base held n e d wf) :
  OpensAt enc P w base held (n + 1) t (Kd.slice e d) (fun xs => xs.length ≤ 9223372036854775807 ∧ ∀ x ∈ xs, wf x) := fun cs x h => by
 rcases DataW.trod_slice ht h with ⟨rfl, _⟩ | ⟨a, len, cap, elems, rest, m, hn, rfl, _, _, hl, hm, hlen, hel, _, _⟩
 ·exact ⟨[], ⟨none, 0, rfl, Nat.le_refl _, ⟨rfl, by simp, fun h => absurd h (by simp)⟩⟩, by simp⟩
 ·obtain rfl : n = m := by omega
  obtain ⟨xs, hxl, hx⟩ := list_upto (Q := fun i y => (∃ c : List Value, c.length = d.sz ∧ d.K w y c ∧ ∀ j u, c[j]? = some u → w.cell? (a.add (i * d.sz + j)) = some u) ∧ wf y) len (fun i hi => by
   have h1 := hel i hi
   rw [List.getElem?_eq_getElem (by omega)] at h1
   obtain ⟨c, hc1, hc2⟩ := Option.bind_eq_some_iff.1 h1
   obtain ⟨y, hy, hw⟩ := he c _ hc2
   obtain ⟨_, hcl, hcc⟩ := World.cells?_some hc1
   refine ⟨y, ⟨c, by rw [hcl, hc], hy, fun j u hu => ?_⟩, hw⟩
   have hj : j < P.cellsOf e := by rw [← hcl]; exact (List.getElem?_eq_some_iff.1 hu).1
   have h2 := hcc j hj
   rw [hu, hc] at h2
   rw [← h2, Addr.add_add])
  subst hxl
  unfold maxLen at hm
  refine ⟨xs, ⟨some a, cap, rfl, hl, ⟨rfl, by omega, fun _ => ⟨a, rfl, fun j p hj => (hx j p hj).1⟩⟩⟩, by omega, fun y hy => ?_⟩
  obtain ⟨i, hi⟩ := List.mem_iff_getElem?.1 hy
  exact (hx i y hi).2
theorem OpensAt.any {t : TypeId} {d : Kd α} {wf : α → Prop} (h : ∀ n, OpensAt enc P w base held n t d wf) {v : Value} {y : DataW H} {p : List MemPlace} (hv : DataW.Trod enc P w base (fun _ => true) held t v y p) : ∃ a, d.K w a v.cells.toList ∧ wf a := by
 obtain ⟨fuel, hf⟩ := hv
 exact h fuel _ _ hf
theorem opens_slice_any {t e : TypeId} {d : Kd α} {wf : α → Prop} (ht : P.underlying t = some (.slice e)) (hc : P.cellsOf e = d.sz) (he : ∀ n, OpensAt enc P w base held n e d wf) : ∀ n, OpensAt enc P w base held n t (Kd.slice e d) (fun xs => xs.length ≤ 9223372036854775807 ∧ ∀ x ∈ xs, wf x)
 | 0 => fun cs x h => by simp [DataW.trod] at h
 | n + 1 => opens_slice n ht hc (he n)
end
end Go.Proofs.Ytjpbemomocccaaa.P

namespace Go.Proofs.Ytjpbemomocccaaa.P
open Go.RowKit Go.Proofs.YtjpbemomocccaaaW.PrintWords Go.Proofs.YtjpbemomocccaaaW.PrintLast Go.Proofs.YtjpbemomocccaaaW.PrintMore
attribute [local go_sem] max2_int min2_int max_two min_two max_three min_three max_four min_four
set_option linter.unusedVariables false
set_option linter.unusedSimpArgs false
def wfS24 (x : S24) : Prop := ((Lit.int .i64 x.f0).wf = true) ∧ ((Lit.int .i64 x.f1).wf = true) ∧ (x.f2.length ≤ 9223372036854775807 ∧ ∀ y12_ ∈ x.f2, y12_.length ≤ 9223372036854775807 ∧ ∀ y7_ ∈ y12_, (Lit.int .i64 y7_).wf = true)
theorem list_of_24 {α : Type} {l : List α} (h : l.length = 3) : ∃ c0 c1 c2, l = [c0, c1, c2] := by
 match l, h with
 | [c0, c1, c2], _ => exact ⟨c0, c1, c2, rfl⟩
theorem opensS24 {H : Type} {enc : TypeId × Value → H} {w : World} {base : Nat} {held : Bool} : ∀ n, OpensAt enc Try.prog w base held n 24 k24 wfS24
 | 0 => fun cs x h => by simp [DataW.trod] at h
 | n + 1 => fun cs x h => by
  obtain ⟨xs, m, hm, _, hl, hlen, hf⟩ := DataW.trod_struct Try.underlying24 h
  obtain rfl : n = m := by omega
  rw [show Try.prog.cellsOf 24 = 3 from by kernel_rfl] at hl
  obtain ⟨c0, c1, c2, rfl⟩ := list_of_24 hl
  have h0 : DataW.trod enc Try.prog w base (fun _ => true) held (n) 2 [c0] = xs[0]? := by
    have q := hf 0 _ rfl
    simpa [show Try.prog.cellsOf 2 = 1 from by kernel_rfl] using q
  rw [List.getElem?_eq_getElem (by rw [hlen]; decide)] at h0
  obtain ⟨a0, e0, w0⟩ := (fun n => opens_int n Try.underlying2) (n) _ _ h0
  cases e0
  have h1 : DataW.trod enc Try.prog w base (fun _ => true) held (n) 2 [c1] = xs[1]? := by
    have q := hf 1 _ rfl
    simpa [show Try.prog.cellsOf 2 = 1 from by kernel_rfl] using q
  rw [List.getElem?_eq_getElem (by rw [hlen]; decide)] at h1
  obtain ⟨a1, e1, w1⟩ := (fun n => opens_int n Try.underlying2) (n) _ _ h1
  cases e1
  have h2 : DataW.trod enc Try.prog w base (fun _ => true) held (n) 22 [c2] = xs[2]? := by
    have q := hf 2 _ rfl
    simpa [show Try.prog.cellsOf 22 = 1 from by kernel_rfl] using q
  rw [List.getElem?_eq_getElem (by rw [hlen]; decide)] at h2
  obtain ⟨a2, ⟨A2, n2, e2, l2, g2⟩, w2⟩ := (opens_slice_any Try.underlying22 (by kernel_rfl) (opens_slice_any Try.underlying35 (by kernel_rfl) (fun n => opens_int n Try.underlying2))) (n) _ _ h2
  cases e2
  exact ⟨⟨a0, a1, a2⟩, k24_mk w ⟨a0, a1, a2⟩ l2 g2, w0, w1, w2⟩
end Go.Proofs.Ytjpbemomocccaaa.P

namespace Go.Proofs.Ytjpbemomocccaaa.P
open Go.RowKit Go.Proofs.YtjpbemomocccaaaW.PrintWords Go.Proofs.YtjpbemomocccaaaW.PrintLast Go.Proofs.YtjpbemomocccaaaW.PrintMore
attribute [local go_sem] max2_int min2_int max_two min_two max_three min_three max_four min_four
set_option linter.unusedVariables false
set_option linter.unusedSimpArgs false
def wfS50 (x : S50) : Prop := ((Lit.int .i64 x.f0).wf = true) ∧ (x.f1.length ≤ 9223372036854775807 ∧ ∀ y7_ ∈ x.f1, (Lit.int .i64 y7_).wf = true) ∧ (wfS24 x.f2)
theorem list_of_50 {α : Type} {l : List α} (h : l.length = 5) : ∃ c0 c1 c2 c3 c4, l = [c0, c1, c2, c3, c4] := by
 match l, h with
 | [c0, c1, c2, c3, c4], _ => exact ⟨c0, c1, c2, c3, c4, rfl⟩
theorem opensS50 {H : Type} {enc : TypeId × Value → H} {w : World} {base : Nat} {held : Bool} : ∀ n, OpensAt enc Try.prog w base held n 50 k50 wfS50
 | 0 => fun cs x h => by simp [DataW.trod] at h
 | n + 1 => fun cs x h => by
  obtain ⟨xs, m, hm, _, hl, hlen, hf⟩ := DataW.trod_struct Try.underlying50 h
  obtain rfl : n = m := by omega
  rw [show Try.prog.cellsOf 50 = 5 from by kernel_rfl] at hl
  obtain ⟨c0, c1, c2, c3, c4, rfl⟩ := list_of_50 hl
  have h0 : DataW.trod enc Try.prog w base (fun _ => true) held (n) 2 [c0] = xs[0]? := by
    have q := hf 0 _ rfl
    simpa [show Try.prog.cellsOf 2 = 1 from by kernel_rfl] using q
  rw [List.getElem?_eq_getElem (by rw [hlen]; decide)] at h0
  obtain ⟨a0, e0, w0⟩ := (fun n => opens_int n Try.underlying2) (n) _ _ h0
  cases e0
  have h1 : DataW.trod enc Try.prog w base (fun _ => true) held (n) 35 [c1] = xs[1]? := by
    have q := hf 1 _ rfl
    simpa [show Try.prog.cellsOf 35 = 1 from by kernel_rfl] using q
  rw [List.getElem?_eq_getElem (by rw [hlen]; decide)] at h1
  obtain ⟨a1, ⟨A1, n1, e1, l1, g1⟩, w1⟩ := (opens_slice_any Try.underlying35 (by kernel_rfl) (fun n => opens_int n Try.underlying2)) (n) _ _ h1
  cases e1
  have h2 : DataW.trod enc Try.prog w base (fun _ => true) held (n) 24 [c2, c3, c4] = xs[2]? := by
    have q := hf 2 _ rfl
    simpa [show Try.prog.cellsOf 24 = 3 from by kernel_rfl] using q
  rw [List.getElem?_eq_getElem (by rw [hlen]; decide)] at h2
  obtain ⟨a2, k2, w2⟩ := opensS24 (n) _ _ h2
  obtain ⟨A2_2, n2_2, e2, l2_2, g2_2⟩ := k24_open k2
  cases e2
  exact ⟨⟨a0, a1, a2⟩, k50_mk w ⟨a0, a1, a2⟩ l1 g1 l2_2 g2_2, w0, w1, w2⟩
end Go.Proofs.Ytjpbemomocccaaa.P

namespace Go.Proofs.Ytjpbemomocccaaa.P
open Go.RowKit Go.Proofs.YtjpbemomocccaaaW.PrintWords Go.Proofs.YtjpbemomocccaaaW.PrintLast Go.Proofs.YtjpbemomocccaaaW.PrintMore
attribute [local go_sem] max2_int min2_int max_two min_two max_three min_three max_four min_four
set_option linter.unusedVariables false
set_option linter.unusedSimpArgs false
def laws_FnExactEitherScheme.Way0 (x0 : S50) (x1 : S50) : Prop := ∃ k : Nat, ∃ (s3 : Int), (laws_szScheme.f k x0.f0 x0.f1 x0.f2.f0 x0.f2.f1 x0.f2.f2 1048576 = some s3) ∧ (decide (s3 < 0) = true)
def laws_FnExactEitherScheme.Way1 (x0 : S50) (x1 : S50) : Prop := ∃ k : Nat, ∃ (s3 : Int) (s19 : Int), (laws_szScheme.f k x0.f0 x0.f1 x0.f2.f0 x0.f2.f1 x0.f2.f2 1048576 = some s3) ∧ (decide (s3 < 0) = false) ∧ (laws_szScheme.f k x1.f0 x1.f1 x1.f2.f0 x1.f2.f1 x1.f2.f2 s3 = some s19) ∧ (decide (s19 < 0) = true)
def laws_FnExactEitherScheme.Way2 (x0 : S50) (x1 : S50) : Prop := ∃ k : Nat, ∃ (s3 : Int) (s19 : Int) (r71 : Int) (r72 : List Int) (r73 : Int) (r74 : Int) (r75 : List (List Int)) (r76 : Int) (m408 : Int) (ys409 : List Int) (ys410 : List (List Int)) (m449 : Int) (ys450 : List Int) (ys451 : List (List Int)) (m529 : Int) (ys530 : List Int) (ys531 : List (List Int)), (laws_szScheme.f k x0.f0 x0.f1 x0.f2.f0 x0.f2.f1 x0.f2.f2 1048576 = some s3) ∧ (decide (s3 < 0) = false) ∧ (laws_szScheme.f k x1.f0 x1.f1 x1.f2.f0 x1.f2.f1 x1.f2.f2 s3 = some s19) ∧ (decide (s19 < 0) = false) ∧ (laws_toScheme.f k x0.f0 x0.f1 x0.f2.f0 x0.f2.f1 x0.f2.f2 = some (x0.f0, x0.f1, x0.f2.f0, x0.f2.f1, x0.f2.f2)) ∧ (laws_toScheme.f k x1.f0 x1.f1 x1.f2.f0 x1.f2.f1 x1.f2.f2 = some (x1.f0, x1.f1, x1.f2.f0, x1.f2.f1, x1.f2.f2)) ∧ (spec_EitherScheme.f k x0.f0 x0.f1 x0.f2.f0 x0.f2.f1 x0.f2.f2 x1.f0 x1.f1 x1.f2.f0 x1.f2.f1 x1.f2.f2 = some (r71, r72, r73, r74, r75, r76)) ∧ (laws_toScheme.f k x0.f0 x0.f1 x0.f2.f0 x0.f2.f1 x0.f2.f2 = some (x0.f0, x0.f1, x0.f2.f0, x0.f2.f1, x0.f2.f2)) ∧ (laws_toScheme.f k x1.f0 x1.f1 x1.f2.f0 x1.f2.f1 x1.f2.f2 = some (x1.f0, x1.f1, x1.f2.f0, x1.f2.f1, x1.f2.f2)) ∧ (impl_EitherScheme.f k x0.f0 x0.f1 x0.f2.f0 x0.f2.f1 x0.f2.f2 x1.f0 x1.f1 x1.f2.f0 x1.f2.f1 x1.f2.f2 = some (r71, r72, r73, r74, r75, r76)) ∧ (laws_eqScheme.f k r71 r72 r73 r74 r75 r71 r72 r73 r74 r75 = some true) ∧ (laws_toScheme.f k x0.f0 x0.f1 x0.f2.f0 x0.f2.f1 x0.f2.f2 = some (x0.f0, x0.f1, x0.f2.f0, x0.f2.f1, x0.f2.f2)) ∧ (laws_eqScheme.f k x0.f0 x0.f1 x0.f2.f0 x0.f2.f1 x0.f2.f2 x0.f0 x0.f1 x0.f2.f0 x0.f2.f1 x0.f2.f2 = some true) ∧ (laws_toScheme.f k x1.f0 x1.f1 x1.f2.f0 x1.f2.f1 x1.f2.f2 = some (x1.f0, x1.f1, x1.f2.f0, x1.f2.f1, x1.f2.f2)) ∧ (laws_eqScheme.f k x1.f0 x1.f1 x1.f2.f0 x1.f2.f1 x1.f2.f2 x1.f0 x1.f1 x1.f2.f0 x1.f2.f1 x1.f2.f2 = some true) ∧ (laws_markScheme.f k x0.f0 x0.f1 x0.f2.f0 x0.f2.f1 x0.f2.f2 1 = some (m408, ys409, ys410)) ∧ (laws_markScheme.f k x1.f0 x1.f1 x1.f2.f0 x1.f2.f1 x1.f2.f2 m408 = some (m449, ys450, ys451)) ∧ (decide (m449 < 0) = false) ∧ (laws_eqScheme.f k r71 r72 r73 r74 r75 r71 r72 r73 r74 r75 = some true) ∧ (laws_markScheme.f k r71 r72 r73 r74 r75 1 = some (m529, ys530, ys531)) ∧ (laws_heldScheme.f k r71 ys530 r73 r74 ys531 1 = some m529) ∧ (decide (m529 < 0) = false) ∧ (laws_toScheme.f k x0.f0 x0.f1 x0.f2.f0 x0.f2.f1 x0.f2.f2 = some (x0.f0, x0.f1, x0.f2.f0, x0.f2.f1, x0.f2.f2)) ∧ (laws_toScheme.f k x1.f0 x1.f1 x1.f2.f0 x1.f2.f1 x1.f2.f2 = some (x1.f0, x1.f1, x1.f2.f0, x1.f2.f1, x1.f2.f2)) ∧ (impl_EitherScheme.f k x0.f0 x0.f1 x0.f2.f0 x0.f2.f1 x0.f2.f2 x1.f0 x1.f1 x1.f2.f0 x1.f2.f1 x1.f2.f2 = some (r71, r72, r73, r74, r75, r76)) ∧ (laws_eqScheme.f k r71 r72 r73 r74 r75 r71 r72 r73 r74 r75 = some true) ∧ (laws_heldScheme.f k r71 ys530 r73 r74 ys531 1 = some m529) ∧ (decide (m529 < 0) = false)
def laws_FnExactEitherScheme.Pure : Prop := ∀ (x0 : S50) (x1 : S50), wfS50 x0 → wfS50 x1 → laws_FnExactEitherScheme.Way0 x0 x1 ∨ laws_FnExactEitherScheme.Way1 x0 x1 ∨ laws_FnExactEitherScheme.Way2 x0 x1
theorem laws_FnExactEitherScheme.walk (P : laws_FnExactEitherScheme.Pure) (x0 : S50) (x1 : S50) (A0_1 : Option Addr) (c0_1 : Nat) (A0_4 : Option Addr) (c0_4 : Nat) (A1_1 : Option Addr) (c1_1 : Nat) (A1_4 : Option Addr) (c1_4 : Nat) (w : World) (hr0_1 : Kd.C (Kd.int .i64) w A0_1 x0.f1.length x0.f1) (hc0_1 : x0.f1.length ≤ c0_1) (hr0_4 : Kd.C (Kd.slice 2 (Kd.int .i64)) w A0_4 x0.f2.f2.length x0.f2.f2) (hc0_4 : x0.f2.f2.length ≤ c0_4) (hr1_1 : Kd.C (Kd.int .i64) w A1_1 x1.f1.length x1.f1) (hc1_1 : x1.f1.length ≤ c1_1) (hr1_4 : Kd.C (Kd.slice 2 (Kd.int .i64)) w A1_4 x1.f2.f2.length x1.f2.f2) (hc1_4 : x1.f2.f2.length ≤ c1_4) (wf0 : wfS50 x0) (wf1 : wfS50 x1) :
  Calls Try.prog 11 #[.agg #[.int .i64 x0.f0, .slice A0_1 x0.f1.length c0_1, .int .i64 x0.f2.f0, .int .i64 x0.f2.f1, .slice A0_4 x0.f2.f2.length c0_4], .agg #[.int .i64 x1.f0, .slice A1_1 x1.f1.length c1_1, .int .i64 x1.f2.f0, .int .i64 x1.f2.f1, .slice A1_4 x1.f2.f2.length c1_4]] w fun e w' => e = .returned (.bool true) ∧ Below w.heap.size w w' := by
 rcases P x0 x1 wf0 wf1 with h | h | h
 ·obtain ⟨k, s3, A4, t18⟩ := h
  exact laws_FnExactEitherScheme.way0 k x0.f0 _ _ x0.f1 x0.f2.f0 x0.f2.f1 _ _ x0.f2.f2 x1.f0 _ _ x1.f1 x1.f2.f0 x1.f2.f1 _ _ x1.f2.f2 s3 w hr0_1 hc0_1 hr0_4 hc0_4 hr1_1 hc1_1 hr1_4 hc1_4 A4 t18
 ·obtain ⟨k, s3, s19, A4, t18, A20, t34⟩ := h
  exact laws_FnExactEitherScheme.way1 k x0.f0 _ _ x0.f1 x0.f2.f0 x0.f2.f1 _ _ x0.f2.f2 x1.f0 _ _ x1.f1 x1.f2.f0 x1.f2.f1 _ _ x1.f2.f2 s3 s19 w hr0_1 hc0_1 hr0_4 hc0_4 hr1_1 hc1_1 hr1_4 hc1_4 A4 t18 A20 t34
 ·obtain ⟨k, s3, s19, r71, r72, r73, r74, r75, r76, m408, ys409, ys410, m449, ys450, ys451, m529, ys530, ys531, A4, t18, A20, t34, A35, A53, A77, A117, A142, A173, A210, A248, A290, A328, A370, A411, A452, t490, A491, A532, A570, t608, A609, A651, A693, A781, A825, t869⟩ := h
  exact laws_FnExactEitherScheme.way2 k x0.f0 _ _ x0.f1 x0.f2.f0 x0.f2.f1 _ _ x0.f2.f2 x1.f0 _ _ x1.f1 x1.f2.f0 x1.f2.f1 _ _ x1.f2.f2 s3 s19 r71 r72 r73 r74 r75 r76 m408 ys409 ys410 m449 ys450 ys451 m529 ys530 ys531 w hr0_1 hc0_1 hr0_4 hc0_4 hr1_1 hc1_1 hr1_4 hc1_4 A4 t18 A20 t34 A35 A53 A77 A117 A142 A173 A210 A248 A290 A328 A370 A411 A452 t490 A491 A532 A570 t608 A609 A651 A693 A781 A825 t869
end Go.Proofs.Ytjpbemomocccaaa.P

namespace Go.Proofs.Ytjpbemomocccaaa.P
open Go.RowKit Go.Proofs.YtjpbemomocccaaaW.PrintWords Go.Proofs.YtjpbemomocccaaaW.PrintLast Go.Proofs.YtjpbemomocccaaaW.PrintMore
attribute [local go_sem] max2_int min2_int max_two min_two max_three min_three max_four min_four
set_option linter.unusedVariables false
set_option linter.unusedSimpArgs false
theorem toInt64S_loop (l : List Int) (hl : l.length ≤ 1048576) : ∀ (d i : Nat), i + d = l.length → Ev (fun k => laws_toInt64S.l0 k l (l.take i ++ List.replicate d 0) (i : Int)) l := by
 intro d
 induction d with
 | zero =>
  intro i hi
  refine Ev.step (f := fun _ => some l) (fun k => ?_) (Ev.now _)
  simp only [laws_toInt64S.l0]
  rw [if_neg (by omega)]
  simp [List.take_of_length_le (show l.length ≤ i by omega)]
 | succ d ih =>
  intro i hi
  have hlt : i < l.length := by omega
  refine Ev.step (fun k => ?_) (ih (i + 1) (by omega))
  simp only [laws_toInt64S.l0]
  rw [if_pos (by omega), if_pos (by omega), if_pos (by simp; omega), wr (by omega) (by omega), rd_nat l i hlt]
  have e : (l.take i ++ List.replicate (d + 1) 0).set ((i : Int)).toNat l[i] = l.take (i + 1) ++ List.replicate d 0 := by
   have e0 : (l.take i).length = i := by rw [List.length_take]; omega
   rw [Int.toNat_natCast, List.set_append_right _ _ (by omega), e0, Nat.sub_self, List.replicate_succ, List.set_cons_zero, List.take_succ_eq_append_getElem hlt, List.append_assoc]
   rfl
  rw [e]
  rfl
theorem toInt64S_ev (l : List Int) (hl : l.length ≤ 1048576) : Ev (fun k => laws_toInt64S.f k l) l := by
 unfold laws_toInt64S.f
 simp only [if_pos (show (0 : Int) ≤ (l.length : Int) by omega), if_pos (show ((l.length : Int)).toNat ≤ 35184372088832 by omega)]
 have := toInt64S_loop l hl l.length 0 (by omega)
 rw [List.take_zero, List.nil_append] at this
 rw [Int.toNat_natCast]
 exact this
theorem eqInt64S_loop (a b : List Int) (hl : a.length ≤ 1048576) (hab : a.length = b.length) : ∀ (d i : Nat), i + d = a.length → Ev (fun k => laws_eqInt64S.l0 k a b (i : Int)) (decide (a.drop i = b.drop i)) := by
 intro d
 induction d with
 | zero =>
  intro i hi
  refine Ev.step (f := fun _ => some true) (fun k => ?_) ?_
  ·simp only [laws_eqInt64S.l0]
   rw [if_neg (by omega)]
  ·rw [List.drop_eq_nil_of_le (by omega), List.drop_eq_nil_of_le (by omega), decide_eq_true rfl]
   exact Ev.now _
 | succ d ih =>
  intro i hi
  have h1 : i < a.length := by omega
  have h2 : i < b.length := by omega
  have ed : (a.drop i = b.drop i) ↔ (a[i] = b[i] ∧ a.drop (i + 1) = b.drop (i + 1)) := by
   rw [List.drop_eq_getElem_cons h1, List.drop_eq_getElem_cons h2, List.cons.injEq]
  by_cases e : a[i] = b[i]
  ·rw [show decide (a.drop i = b.drop i) = decide (a.drop (i + 1) = b.drop (i + 1)) from by simp only [ed, e, true_and]]
   refine Ev.step (fun k => ?_) (ih (i + 1) (by omega))
   simp only [laws_eqInt64S.l0]
   rw [if_pos (by omega), if_pos (by omega), if_pos (by omega), rd_nat a i h1, rd_nat b i h2, if_pos e, wr (by omega) (by omega)]
   rfl
  ·refine Ev.step (f := fun _ => some false) (fun k => ?_) ?_
   ·simp only [laws_eqInt64S.l0]
    rw [if_pos (by omega), if_pos (by omega), if_pos (by omega), rd_nat a i h1, rd_nat b i h2, if_neg e]
   ·rw [decide_eq_false (by rw [ed]; simp [e])]
    exact Ev.now _
theorem eqInt64S_ev (a b : List Int) (hl : a.length ≤ 1048576) : Ev (fun k => laws_eqInt64S.f k a b) (decide (a = b)) := by
 unfold laws_eqInt64S.f
 by_cases h : a.length = b.length
 ·simp only [if_pos (show (a.length : Int) = (b.length : Int) by omega)]
  have := eqInt64S_loop a b hl h a.length 0 (by omega)
  rw [List.drop_zero, List.drop_zero] at this
  exact this
 ·simp only [if_neg (show ¬ (a.length : Int) = (b.length : Int) by omega)]
  rw [decide_eq_false (by intro e; exact h (by rw [e]))]
  exact Ev.now _
theorem eqInt64S_same (a : List Int) (hl : a.length ≤ 1048576) : Ev (fun k => laws_eqInt64S.f k a a) true := by
 have := eqInt64S_ev a a hl
 rwa [decide_eq_true rfl] at this
def before (l : List Int) (i : Nat) : Option Int := if i = 0 then none else l[i - 1]?
end Go.Proofs.Ytjpbemomocccaaa.P

namespace Go.Proofs.Ytjpbemomocccaaa.P
open Go.RowKit Go.Proofs.YtjpbemomocccaaaW.PrintWords Go.Proofs.YtjpbemomocccaaaW.PrintLast Go.Proofs.YtjpbemomocccaaaW.PrintMore
attribute [local go_sem] max2_int min2_int max_two min_two max_three min_three max_four min_four
set_option linter.unusedVariables false
set_option linter.unusedSimpArgs false
theorem scan_ev {ρ : Type} {l : Nat → Int → Option ρ} {n : Nat} {q : Nat → Bool} {fin stop : ρ}
  (hgo : ∀ i : Nat, i < n → q i = true → ∀ r, Ev (fun k => l k ((i + 1 : Nat) : Int)) r → Ev (fun k => l k (i : Int)) r)
  (hstop : ∀ i : Nat, i < n → q i = false → Ev (fun k => l k (i : Int)) stop)
  (hend : Ev (fun k => l k (n : Int)) fin) : Ev (fun k => l k 0) (if (List.range n).all q then fin else stop) := by
 have key : ∀ d i : Nat, i + d = n → Ev (fun k => l k (i : Int)) (if ((List.range n).drop i).all q then fin else stop) := by
  intro d
  induction d with
  | zero =>
   intro i hi
   obtain rfl : i = n := by omega
   rw [List.drop_eq_nil_of_le (by simp)]
   exact hend
  | succ d ih =>
   intro i hi
   rw [List.drop_eq_getElem_cons (by simp; omega), List.getElem_range, List.all_cons]
   cases hq : q i with
   | false => exact hstop i (by omega) hq
   | true => rw [Bool.true_and]; exact hgo i (by omega) hq _ (ih (i + 1) (by omega))
 have := key n 0 (by omega)
 rw [List.drop_zero] at this
 exact this
theorem range_all {α : Type} (xs : List α) (p : α → Bool) (q : Nat → Bool) (h : ∀ (i : Nat) (hi : i < xs.length), q i = p xs[i]) : (List.range xs.length).all q = xs.all p := by
 rw [Bool.eq_iff_iff, List.all_eq_true, List.all_eq_true]
 constructor
 ·intro hq x hx
  obtain ⟨i, hi, rfl⟩ := List.getElem_of_mem hx
  rw [← h i hi]
  exact hq i (by simpa using hi)
 ·intro hp i hi
  have hi' : i < xs.length := by simpa using hi
  rw [h i hi']
  exact hp _ (List.getElem_mem hi')
theorem rdL_nat (xs : List (List Int)) (i : Nat) (h : i < xs.length) : rd_L1 xs (i : Int) = xs[i] := by
 simp [rd_L1, h]
def bulk (rows : List (List Int)) : Nat := rows.length + (rows.map List.length).sum
theorem sum_take_le (l : List Nat) (i : Nat) : (l.take i).sum ≤ l.sum := by
 conv => rhs; rw [← List.take_append_drop i l, List.sum_append]
 omega
theorem sum_take_succ (l : List Nat) (i : Nat) (h : i < l.length) : (l.take (i + 1)).sum = (l.take i).sum + l[i] := by
 rw [List.take_succ_eq_append_getElem h, List.sum_append]; simp
theorem sum_mem_le (l : List Nat) (x : Nat) (h : x ∈ l) : x ≤ l.sum := by
 obtain ⟨i, hi, rfl⟩ := List.getElem_of_mem h
 have := sum_take_succ l i hi
 have := sum_take_le l (i + 1)
 omega
theorem szInt64S_eq (l : List Int) (a : Int) (ha : 0 ≤ a ∧ a ≤ 1048576) (hl : l.length ≤ 9223372036854775807) : laws_szInt64S.f l a = some (if (l.length : Int) ≤ a then a - l.length else -1) := by
 unfold laws_szInt64S.f
 rw [wr (by omega) (by omega)]
 by_cases h : (l.length : Int) ≤ a
 ·rw [if_neg (by omega), if_pos h]
 ·rw [if_pos (by omega), if_neg h]
theorem szInt64SS_ev (rows : List (List Int)) (a : Int) (ha : 0 ≤ a ∧ a ≤ 1048576) (hl : rows.length ≤ 9223372036854775807) (hr : ∀ r ∈ rows, r.length ≤ 9223372036854775807) :
  Ev (fun k => laws_szInt64SS.f k rows a) (if (bulk rows : Int) ≤ a then a - bulk rows else -1) := by
 unfold laws_szInt64SS.f
 rw [wr (by omega) (by omega)]
 by_cases h0 : a - (rows.length : Int) < 0
 ·simp only [if_pos h0]
  rw [if_neg (by unfold bulk; omega)]
  exact Ev.now _
 ·simp only [if_neg h0]
  have key : ∀ d i : Nat, i + d = rows.length → ∀ b : Int, 0 ≤ b → b = a - rows.length - ((rows.map List.length).take i).sum → Ev (fun k => laws_szInt64SS.l0 k rows b (i : Int)) (if (bulk rows : Int) ≤ a then a - bulk rows else -1) := by
   intro d
   induction d with
   | zero =>
    intro i hi b hb hbe
    rw [List.take_of_length_le (by simp; omega)] at hbe
    rw [if_pos (by unfold bulk; omega), show a - ((bulk rows : Nat) : Int) = b from by unfold bulk; omega]
    refine Ev.step (f := fun _ => some b) (fun k => ?_) (Ev.now _)
    simp only [laws_szInt64SS.l0]
    rw [if_neg (by omega)]
   | succ d ih =>
    intro i hi b hb hbe
    have hlt : i < rows.length := by omega
    have hs := sum_take_succ (rows.map List.length) i (by simpa using hlt)
    rw [List.getElem_map] at hs
    have hs2 := sum_take_le (rows.map List.length) (i + 1)
    have hri := hr _ (List.getElem_mem hlt)
    by_cases hc : ((rows[i]).length : Int) ≤ b
    ·refine Ev.step (fun k => ?_) (ih (i + 1) (by omega) (b - (rows[i]).length) (by omega) (by omega))
     simp only [laws_szInt64SS.l0]
     rw [if_pos (by omega), if_pos (by omega), rdL_nat rows i hlt, szInt64S_eq _ _ (by omega) hri, if_pos hc, wr (x := (i : Int) + 1) (by omega) (by omega)]
     simp only [Option.bind_some]
     rw [if_neg (by omega)]
     rfl
    ·refine Ev.step (f := fun _ => some (-1)) (fun k => ?_) ?_
     ·simp only [laws_szInt64SS.l0]
      rw [if_pos (by omega), if_pos (by omega), rdL_nat rows i hlt, szInt64S_eq _ _ (by omega) hri, if_neg hc]
      rfl
     ·rw [if_neg (by unfold bulk; omega)]
      exact Ev.now _
  exact key rows.length 0 (by omega) _ (by omega) (by simp)
theorem bulk_len {rows : List (List Int)} {n : Nat} (h : bulk rows ≤ n) : rows.length ≤ n ∧ ∀ r ∈ rows, r.length ≤ n := by
 unfold bulk at h
 refine ⟨by omega, fun r hr => ?_⟩
 have := sum_mem_le (rows.map List.length) r.length (List.mem_map_of_mem hr)
 omega
theorem toInt64SS_ev (l : List (List Int)) (hl : l.length ≤ 1048576) (hr : ∀ r ∈ l, r.length ≤ 1048576) : Ev (fun k => laws_toInt64SS.f k l) l := by
 unfold laws_toInt64SS.f
 simp only [if_pos (show (0 : Int) ≤ (l.length : Int) by omega), if_pos (show ((l.length : Int)).toNat ≤ 11728124029610 by omega)]
 have go : ∀ (d i : Nat), i + d = l.length → Ev (fun k => laws_toInt64SS.l0 k l (l.take i ++ List.replicate d []) (i : Int)) l := by
  intro d
  induction d with
  | zero =>
   intro i hi
   refine Ev.step (f := fun _ => some l) (fun k => ?_) (Ev.now _)
   simp only [laws_toInt64SS.l0]
   rw [if_neg (by omega)]
   simp [List.take_of_length_le (show l.length ≤ i by omega)]
  | succ d ih =>
   intro i hi
   have hlt : i < l.length := by omega
   refine Ev.step (f := fun k => (laws_toInt64S.f k l[i]).bind fun t => laws_toInt64SS.l0 k l ((l.take i ++ List.replicate (d + 1) []).set i t) ((i + 1 : Nat) : Int)) (fun k => ?_) ?_
   ·simp only [laws_toInt64SS.l0]
    rw [if_pos (by omega), if_pos (by omega), rdL_nat l i hlt, wr (by omega) (by omega)]
    simp only [if_pos (show (i : Int) < ((l.take i ++ List.replicate (d + 1) ([] : List Int)).length : Int) by simp; omega), Int.toNat_natCast]
    rfl
   ·refine Ev.bind (toInt64S_ev _ (hr _ (List.getElem_mem hlt))) ?_
    have e0 : (l.take i).length = i := by rw [List.length_take]; omega
    have e : (l.take i ++ List.replicate (d + 1) []).set i l[i] = l.take (i + 1) ++ List.replicate d [] := by
     rw [List.set_append_right _ _ (by omega), e0, Nat.sub_self, List.replicate_succ, List.set_cons_zero, List.take_succ_eq_append_getElem hlt, List.append_assoc]
     rfl
    rw [e]
    exact ih (i + 1) (by omega)
 have := go l.length 0 (by omega)
 rw [List.take_zero, List.nil_append] at this
 rw [Int.toNat_natCast]
 exact this
theorem eqInt64SS_ev (a b : List (List Int)) (hl : a.length ≤ 1048576) (hr : ∀ r ∈ a, r.length ≤ 1048576) : Ev (fun k => laws_eqInt64SS.f k a b) (decide (a = b)) := by
 unfold laws_eqInt64SS.f
 by_cases h : a.length = b.length
 ·simp only [if_pos (show (a.length : Int) = (b.length : Int) by omega)]
  have key : ∀ (d i : Nat), i + d = a.length → Ev (fun k => laws_eqInt64SS.l0 k a b (i : Int)) (decide (a.drop i = b.drop i)) := by
   intro d
   induction d with
   | zero =>
    intro i hi
    refine Ev.step (f := fun _ => some true) (fun k => ?_) ?_
    ·simp only [laws_eqInt64SS.l0]
     rw [if_neg (by omega)]
    ·rw [List.drop_eq_nil_of_le (by omega), List.drop_eq_nil_of_le (by omega), decide_eq_true rfl]
     exact Ev.now _
   | succ d ih =>
    intro i hi
    have h1 : i < a.length := by omega
    have h2 : i < b.length := by omega
    have ed : (a.drop i = b.drop i) ↔ (a[i] = b[i] ∧ a.drop (i + 1) = b.drop (i + 1)) := by
     rw [List.drop_eq_getElem_cons h1, List.drop_eq_getElem_cons h2, List.cons.injEq]
    refine Ev.step (f := fun k => (laws_eqInt64S.f k a[i] b[i]).bind fun t => if t = true then laws_eqInt64SS.l0 k a b ((i + 1 : Nat) : Int) else some false) (fun k => ?_) ?_
    ·simp only [laws_eqInt64SS.l0]
     rw [if_pos (by omega), if_pos (by omega), if_pos (by omega), rdL_nat a i h1, rdL_nat b i h2, wr (by omega) (by omega)]
     rfl
    ·refine Ev.bind (eqInt64S_ev _ _ (hr _ (List.getElem_mem h1))) ?_
     by_cases e : a[i] = b[i]
     ·rw [decide_eq_true e, show decide (a.drop i = b.drop i) = decide (a.drop (i + 1) = b.drop (i + 1)) from by simp only [ed, e, true_and]]
      exact ih (i + 1) (by omega)
     ·rw [decide_eq_false e, decide_eq_false (by rw [ed]; simp [e])]
      exact Ev.now _
  have := key a.length 0 (by omega)
  rw [List.drop_zero, List.drop_zero] at this
  exact this
 ·simp only [if_neg (show ¬ (a.length : Int) = (b.length : Int) by omega)]
  rw [decide_eq_false (by intro e; exact h (by rw [e]))]
  exact Ev.now _
theorem eqInt64SS_same (a : List (List Int)) (hl : a.length ≤ 1048576) (hr : ∀ r ∈ a, r.length ≤ 1048576) : Ev (fun k => laws_eqInt64SS.f k a a) true := by
 have := eqInt64SS_ev a a hl hr
 rwa [decide_eq_true rfl] at this
theorem szMatrix_ev (p c : Int) (rows : List (List Int)) (a : Int) (ha : 0 ≤ a ∧ a ≤ 1048576) (hl : rows.length ≤ 9223372036854775807) (hr : ∀ r ∈ rows, r.length ≤ 9223372036854775807) :
  Ev (fun k => laws_szMatrix.f k p c rows a) (if (bulk rows : Int) ≤ a then a - bulk rows else -1) := by
 unfold laws_szMatrix.f
 refine Ev.bind (szInt64SS_ev rows a ha hl hr) ?_
 by_cases h : (bulk rows : Int) ≤ a
 ·simp only [if_pos h, if_neg (show ¬ (a - (bulk rows : Int) < 0) by omega)]
  exact Ev.now _
 ·simp only [if_neg h]
  exact Ev.now _
theorem toMatrix_ev (p c : Int) (l : List (List Int)) (hl : l.length ≤ 1048576) (hr : ∀ r ∈ l, r.length ≤ 1048576) : Ev (fun k => laws_toMatrix.f k p c l) (p, c, l) := by
 unfold laws_toMatrix.f
 exact Ev.bind (toInt64SS_ev l hl hr) (Ev.now _)
theorem eqMatrix_same (p c : Int) (l : List (List Int)) (hl : l.length ≤ 1048576) (hr : ∀ r ∈ l, r.length ≤ 1048576) : Ev (fun k => laws_eqMatrix.f k p c l p c l) true := by
 unfold laws_eqMatrix.f
 simp only [if_true]
 refine Ev.bind (eqInt64SS_same l hl hr) ?_
 simp only [if_true]
 exact Ev.now _
end Go.Proofs.Ytjpbemomocccaaa.P

namespace Go.Proofs.Ytjpbemomocccaaa.P
open Go.RowKit Go.Proofs.YtjpbemomocccaaaW.PrintWords Go.Proofs.YtjpbemomocccaaaW.PrintLast Go.Proofs.YtjpbemomocccaaaW.PrintMore
attribute [local go_sem] max2_int min2_int max_two min_two max_three min_three max_four min_four
set_option linter.unusedVariables false
set_option linter.unusedSimpArgs false
def grp (gs : List (List Int)) (i : Nat) : List Int := gs.getD i []
theorem rdL_grp (gs : List (List Int)) (i : Nat) (h : i < gs.length) : rd_L1 gs (i : Int) = grp gs i := by
 rw [rdL_nat gs i h]; simp [grp, h]
end Go.Proofs.Ytjpbemomocccaaa.P

namespace Go.Proofs.Ytjpbemomocccaaa.P
open Go.RowKit Go.Proofs.YtjpbemomocccaaaW.PrintWords Go.Proofs.YtjpbemomocccaaaW.PrintLast Go.Proofs.YtjpbemomocccaaaW.PrintMore
attribute [local go_sem] max2_int min2_int max_two min_two max_three min_three max_four min_four
set_option linter.unusedVariables false
set_option linter.unusedSimpArgs false
def upFrom (a : Int) (n : Nat) : List Int := (List.range n).map fun i : Nat => a + (i : Int)
theorem upFrom_length (a : Int) (n : Nat) : (upFrom a n).length = n := by simp [upFrom]
theorem upFrom_succ (a : Int) (n : Nat) : upFrom a (n + 1) = upFrom a n ++ [a + (n : Int)] := by simp [upFrom, List.range_succ]
theorem markInt64S_ev (l : List Int) (a : Int) (ha : 0 ≤ a ∧ a ≤ 2147483648) (hl : l.length ≤ 4611686018427387904) : Ev (fun k => laws_markInt64S.f k l a) (a + (l.length : Int), upFrom a l.length) := by
 unfold laws_markInt64S.f
 have key : ∀ d i : Nat, i + d = l.length → Ev (fun k => laws_markInt64S.l0 k (upFrom a i ++ l.drop i) (a + (i : Int)) (i : Int)) (a + (l.length : Int), upFrom a l.length) := by
  intro d
  induction d with
  | zero =>
   intro i hi
   obtain rfl : i = l.length := by omega
   refine Ev.step (f := fun _ => some (a + (l.length : Int), upFrom a l.length)) (fun k => ?_) (Ev.now _)
   simp only [laws_markInt64S.l0]
   rw [if_neg (by simp [upFrom_length]), List.drop_length, List.append_nil]
  | succ d ih =>
   intro i hi
   have hlt : i < l.length := by omega
   refine Ev.step (fun k => ?_) (ih (i + 1) (by omega))
   simp only [laws_markInt64S.l0]
   rw [if_pos (by simp [upFrom_length]; omega), if_pos (by omega), wr (by omega) (by omega), wr (by omega) (by omega), Int.toNat_natCast, List.set_append_right _ _ (by rw [upFrom_length]; exact Nat.le_refl _), upFrom_length, Nat.sub_self, List.drop_eq_getElem_cons hlt, List.set_cons_zero, upFrom_succ, List.append_assoc]
   rw [show a + (i : Int) + 1 = a + ((i + 1 : Nat) : Int) by omega]
   rfl
 have := key l.length 0 (by omega)
 simpa [upFrom] using this
theorem heldInt64S_ev (a : Int) (n : Nat) (ha : 0 ≤ a ∧ a ≤ 2147483648) (hl : n ≤ 4611686018427387904) : Ev (fun k => laws_heldInt64S.f k (upFrom a n) a) (a + (n : Int)) := by
 unfold laws_heldInt64S.f
 have key : ∀ d i : Nat, i + d = n → Ev (fun k => laws_heldInt64S.l0 k (upFrom a n) (a + (i : Int)) (i : Int)) (a + (n : Int)) := by
  intro d
  induction d with
  | zero =>
   intro i hi
   obtain rfl : i = n := by omega
   refine Ev.step (f := fun _ => some (a + (i : Int))) (fun k => ?_) (Ev.now _)
   simp only [laws_heldInt64S.l0]
   rw [if_neg (by simp [upFrom_length])]
  | succ d ih =>
   intro i hi
   have hlt : i < (upFrom a n).length := by rw [upFrom_length]; omega
   refine Ev.step (fun k => ?_) (ih (i + 1) (by omega))
   simp only [laws_heldInt64S.l0]
   rw [if_pos (by simp [upFrom_length]; omega), if_pos (by omega), rd_nat _ i hlt, if_pos (by simp [upFrom]), wr (by omega) (by omega), wr (by omega) (by omega)]
   rw [show a + (i : Int) + 1 = a + ((i + 1 : Nat) : Int) by omega]
   rfl
 have := key n 0 (by omega)
 simpa using this
def preLen (rows : List (List Int)) (i : Nat) : Nat := ((rows.map List.length).take i).sum
def allLen (rows : List (List Int)) : Nat := (rows.map List.length).sum
def upRow (a : Int) (rows : List (List Int)) (i : Nat) : List Int := upFrom (a + (preLen rows i : Int)) ((rows.map List.length).getD i 0)
def upRows (a : Int) (rows : List (List Int)) : List (List Int) := (List.range rows.length).map (upRow a rows)
theorem preLen_succ (rows : List (List Int)) (i : Nat) (h : i < rows.length) : preLen rows (i + 1) = preLen rows i + rows[i].length := by
 have := sum_take_succ (rows.map List.length) i (by simpa using h)
 rwa [List.getElem_map] at this
theorem preLen_le (rows : List (List Int)) (i : Nat) : preLen rows i ≤ allLen rows := sum_take_le _ _
theorem preLen_end (rows : List (List Int)) : preLen rows rows.length = allLen rows := by
 unfold preLen allLen
 rw [List.take_of_length_le (by simp)]
theorem upRows_length (a : Int) (rows : List (List Int)) : (upRows a rows).length = rows.length := by simp [upRows]
theorem upRow_eq (a : Int) (rows : List (List Int)) (i : Nat) (h : i < rows.length) : upRow a rows i = upFrom (a + (preLen rows i : Int)) rows[i].length := by
 unfold upRow
 rw [List.getD_eq_getElem?_getD, List.getElem?_map, List.getElem?_eq_getElem h]
 rfl
theorem markInt64SS_ev (rows : List (List Int)) (a : Int) (ha : 0 ≤ a ∧ a ≤ 1073741824) (hl : rows.length ≤ 1073741824) (hs : allLen rows ≤ 1073741824) : Ev (fun k => laws_markInt64SS.f k rows a) (a + (allLen rows : Int), upRows a rows) := by
 unfold laws_markInt64SS.f
 have key : ∀ d i : Nat, i + d = rows.length → Ev (fun k => laws_markInt64SS.l0 k ((List.range i).map (upRow a rows) ++ rows.drop i) (a + (preLen rows i : Int)) (i : Int)) (a + (allLen rows : Int), upRows a rows) := by
  intro d
  induction d with
  | zero =>
   intro i hi
   obtain rfl : i = rows.length := by omega
   refine Ev.step (f := fun _ => some (a + (allLen rows : Int), upRows a rows)) (fun k => ?_) (Ev.now _)
   simp only [laws_markInt64SS.l0]
   rw [if_neg (by simp), List.drop_length, List.append_nil, preLen_end]
   rfl
  | succ d ih =>
   intro i hi
   have hlt : i < rows.length := by omega
   have hp := preLen_succ rows i hlt
   have hp2 := preLen_le rows (i + 1)
   have hrow : rd_L1 ((List.range i).map (upRow a rows) ++ rows.drop i) (i : Int) = rows[i] := by
    rw [rdL_nat _ i (by simp; omega), List.getElem_append_right (by simp)]
    simp
   refine Ev.step (f := fun k => (laws_markInt64S.f k rows[i] (a + (preLen rows i : Int))).bind fun t => laws_markInt64SS.l0 k (((List.range i).map (upRow a rows) ++ rows.drop i).set i t.2) t.1 ((i + 1 : Nat) : Int)) (fun k => ?_) (Ev.bind (markInt64S_ev rows[i] _ (by omega) (by omega)) ?_)
   ·simp only [laws_markInt64SS.l0]
    rw [if_pos (by simp; omega), if_pos (by omega), hrow, wr (by omega) (by omega), Int.toNat_natCast]
    rfl
   ·have e : ((List.range i).map (upRow a rows) ++ rows.drop i).set i (upFrom (a + (preLen rows i : Int)) rows[i].length) = (List.range (i + 1)).map (upRow a rows) ++ rows.drop (i + 1) := by
     rw [List.set_append_right _ _ (by simp), List.length_map, List.length_range, Nat.sub_self, List.drop_eq_getElem_cons hlt, List.set_cons_zero, List.range_succ, List.map_append, List.append_assoc, ← upRow_eq a rows i hlt]
     rfl
    simp only [e]
    rw [show a + (preLen rows i : Int) + (rows[i].length : Int) = a + (preLen rows (i + 1) : Int) by omega]
    exact ih (i + 1) (by omega)
 have := key rows.length 0 (by omega)
 simpa [preLen] using this
theorem heldInt64SS_ev (rows : List (List Int)) (a : Int) (ha : 0 ≤ a ∧ a ≤ 1073741824) (hl : rows.length ≤ 1073741824) (hs : allLen rows ≤ 1073741824) : Ev (fun k => laws_heldInt64SS.f k (upRows a rows) a) (a + (allLen rows : Int)) := by
 unfold laws_heldInt64SS.f
 have key : ∀ d i : Nat, i + d = rows.length → Ev (fun k => laws_heldInt64SS.l0 k (upRows a rows) (a + (preLen rows i : Int)) (i : Int)) (a + (allLen rows : Int)) := by
  intro d
  induction d with
  | zero =>
   intro i hi
   obtain rfl : i = rows.length := by omega
   refine Ev.step (f := fun _ => some (a + (allLen rows : Int))) (fun k => ?_) (Ev.now _)
   simp only [laws_heldInt64SS.l0]
   rw [if_neg (by simp [upRows_length]), preLen_end]
  | succ d ih =>
   intro i hi
   have hlt : i < rows.length := by omega
   have hp := preLen_succ rows i hlt
   have hp2 := preLen_le rows (i + 1)
   have hlt' : i < (upRows a rows).length := by rw [upRows_length]; exact hlt
   have hrow : rd_L1 (upRows a rows) (i : Int) = upFrom (a + (preLen rows i : Int)) rows[i].length := by
    rw [rdL_nat _ i hlt', ← upRow_eq a rows i hlt]
    simp [upRows]
   refine Ev.step (f := fun k => (laws_heldInt64S.f k (upFrom (a + (preLen rows i : Int)) rows[i].length) (a + (preLen rows i : Int))).bind fun t => if t < 0 then some (-1) else laws_heldInt64SS.l0 k (upRows a rows) t ((i + 1 : Nat) : Int)) (fun k => ?_) (Ev.bind (heldInt64S_ev (a + (preLen rows i : Int)) rows[i].length (by omega) (by omega)) ?_)
   ·simp only [laws_heldInt64SS.l0]
    rw [if_pos (by simp [upRows_length]; omega), if_pos (by omega), hrow, wr (by omega) (by omega)]
    rfl
   ·simp only [if_neg (show ¬ (a + (preLen rows i : Int) + (rows[i].length : Int) < 0) by omega)]
    rw [show a + (preLen rows i : Int) + (rows[i].length : Int) = a + (preLen rows (i + 1) : Int) by omega]
    exact ih (i + 1) (by omega)
 have := key rows.length 0 (by omega)
 simpa [preLen] using this
theorem markMatrix_ev (p c : Int) (rows : List (List Int)) (a : Int) (ha : 0 ≤ a ∧ a ≤ 1073741824) (hl : rows.length ≤ 1073741824) (hs : allLen rows ≤ 1073741824) : Ev (fun k => laws_markMatrix.f k p c rows a) (a + (allLen rows : Int), upRows a rows) := by
 unfold laws_markMatrix.f
 exact markInt64SS_ev rows a ha hl hs
theorem heldMatrix_ev (p c : Int) (rows : List (List Int)) (a : Int) (ha : 0 ≤ a ∧ a ≤ 1073741824) (hl : rows.length ≤ 1073741824) (hs : allLen rows ≤ 1073741824) : Ev (fun k => laws_heldMatrix.f k p c (upRows a rows) a) (a + (allLen rows : Int)) := by
 unfold laws_heldMatrix.f
 refine Ev.bind (heldInt64SS_ev rows a ha hl hs) ?_
 simp only [if_neg (show ¬ (a + (allLen rows : Int) < 0) by omega)]
 exact Ev.now _
theorem markScheme_ev (h : Int) (o : List Int) (p c : Int) (rows : List (List Int)) (a : Int) (ha : 0 ≤ a ∧ a ≤ 1073740000) (ho : o.length ≤ 1048576) (hl : rows.length ≤ 1073741824) (hs : allLen rows ≤ 1073741824) (hb : a + (o.length : Int) ≤ 1073741824) : Ev (fun k => laws_markScheme.f k h o p c rows a) (a + (o.length : Int) + (allLen rows : Int), upFrom a o.length, upRows (a + (o.length : Int)) rows) := by
 unfold laws_markScheme.f
 refine Ev.bind (markInt64S_ev o a (by omega) (by omega)) (Ev.bind (markMatrix_ev p c rows _ (by omega) hl hs) (Ev.now _))
theorem heldScheme_ev (h : Int) (o : List Int) (p c : Int) (rows : List (List Int)) (a : Int) (ha : 0 ≤ a ∧ a ≤ 1073740000) (ho : o.length ≤ 1048576) (hl : rows.length ≤ 1073741824) (hs : allLen rows ≤ 1073741824) (hb : a + (o.length : Int) ≤ 1073741824) : Ev (fun k => laws_heldScheme.f k h (upFrom a o.length) p c (upRows (a + (o.length : Int)) rows) a) (a + (o.length : Int) + (allLen rows : Int)) := by
 unfold laws_heldScheme.f
 refine Ev.bind (heldInt64S_ev a o.length (by omega) (by omega)) ?_
 simp only [if_neg (show ¬ (a + (o.length : Int) < 0) by omega)]
 refine Ev.bind (heldMatrix_ev p c rows _ (by omega) hl hs) ?_
 simp only [if_neg (show ¬ (a + (o.length : Int) + (allLen rows : Int) < 0) by omega)]
 exact Ev.now _
end Go.Proofs.Ytjpbemomocccaaa.P

namespace Go.Proofs.Ytjpbemomocccaaa.P
open Go.RowKit Go.Proofs.YtjpbemomocccaaaW.PrintWords Go.Proofs.YtjpbemomocccaaaW.PrintLast Go.Proofs.YtjpbemomocccaaaW.PrintMore
attribute [local go_sem] max2_int min2_int max_two min_two max_three min_three max_four min_four
set_option linter.unusedVariables false
set_option linter.unusedSimpArgs false
theorem build_ev {α ρ : Type} {l : Nat → Int → List α → Option ρ} (n : Nat) (f : Nat → α) {fin : ρ}
  (hgo : ∀ (i : Nat) (acc : List α), i < n → acc.length = i → ∀ r, Ev (fun k => l k ((i + 1 : Nat) : Int) (acc ++ [f i])) r → Ev (fun k => l k (i : Int) acc) r)
  (hend : Ev (fun k => l k (n : Int) ((List.range n).map f)) fin) : Ev (fun k => l k 0 []) fin := by
 have key : ∀ d i : Nat, i + d = n → Ev (fun k => l k (i : Int) ((List.range i).map f)) fin := by
  intro d
  induction d with
  | zero =>
   intro i hi
   obtain rfl : i = n := by omega
   exact hend
  | succ d ih =>
   intro i hi
   refine hgo i _ (by omega) (by simp) _ ?_
   have := ih (i + 1) (by omega)
   rwa [List.range_succ, List.map_append] at this
 exact key n 0 (by omega)
end Go.Proofs.Ytjpbemomocccaaa.P

namespace Go.Proofs.Ytjpbemomocccaaa.P
open Go.RowKit Go.Proofs.YtjpbemomocccaaaW.PrintWords Go.Proofs.YtjpbemomocccaaaW.PrintLast Go.Proofs.YtjpbemomocccaaaW.PrintMore
attribute [local go_sem] max2_int min2_int max_two min_two max_three min_three max_four min_four
set_option linter.unusedVariables false
set_option linter.unusedSimpArgs false
end Go.Proofs.Ytjpbemomocccaaa.P

namespace Go.Proofs.Ytjpbemomocccaaa.P
open Go.RowKit Go.Proofs.YtjpbemomocccaaaW.PrintWords Go.Proofs.YtjpbemomocccaaaW.PrintLast Go.Proofs.YtjpbemomocccaaaW.PrintMore
attribute [local go_sem] max2_int min2_int max_two min_two max_three min_three max_four min_four
set_option linter.unusedVariables false
set_option linter.unusedSimpArgs false
end Go.Proofs.Ytjpbemomocccaaa.P

namespace Go.Proofs.Ytjpbemomocccaaa.P
open Go.RowKit Go.Proofs.YtjpbemomocccaaaW.PrintWords Go.Proofs.YtjpbemomocccaaaW.PrintLast Go.Proofs.YtjpbemomocccaaaW.PrintMore
attribute [local go_sem] max2_int min2_int max_two min_two max_three min_three max_four min_four
set_option linter.unusedVariables false
set_option linter.unusedSimpArgs false
end Go.Proofs.Ytjpbemomocccaaa.P

namespace Go.Proofs.Ytjpbemomocccaaa.P
open Go.RowKit Go.Proofs.YtjpbemomocccaaaW.PrintWords Go.Proofs.YtjpbemomocccaaaW.PrintLast Go.Proofs.YtjpbemomocccaaaW.PrintMore
attribute [local go_sem] max2_int min2_int max_two min_two max_three min_three max_four min_four
set_option linter.unusedVariables false
set_option linter.unusedSimpArgs false
def rowB (p cols : Int) (r : List Int) : Bool := decide ((r.length : Int) = cols) && elemsB p r
def validMB (p cols : Int) (rows : List (List Int)) : Bool := primeB p && (decide (0 ≤ cols ∧ cols ≤ 12) && (decide (rows.length ≤ 20) && rows.all (rowB p cols)))
theorem spec_l03Row_ev (p cols : Int) (r : List Int) (hp : -1000 ≤ p ∧ p ≤ 1000) (hl : r.length ≤ 4611686018427387904) : Ev (fun k => spec_l03Row.f k p cols r) (rowB p cols r) := by
 unfold spec_l03Row.f
 have h := scan_ev (l := fun k i => spec_l03Row.l0 k p cols r i) (n := r.length) (q := fun i => decide (0 ≤ rd r i ∧ rd r i ≤ p - 1)) (fin := decide ((r.length : Int) = cols)) (stop := false)
  (fun i hi hq t ht => by
   refine Ev.step (fun k => ?_) ht
   simp only [spec_l03Row.l0]
   rw [if_pos (by omega), if_pos (by omega), wr (x := p - 1) (by omega) (by omega), spec_l00In_eq, wr (x := (i : Int) + 1) (by omega) (by omega)]
   simp only [Option.bind_some]
   rw [if_pos hq]
   rfl)
  (fun i hi hq => by
   refine Ev.step (f := fun _ => some false) (fun k => ?_) (Ev.now _)
   simp only [spec_l03Row.l0]
   rw [if_pos (by omega), if_pos (by omega), wr (x := p - 1) (by omega) (by omega), spec_l00In_eq]
   simp only [Option.bind_some]
   rw [if_neg (by rw [hq]; decide)])
  (by
   refine Ev.step (f := fun _ => some ((r.length : Int) == cols)) (fun k => ?_) ?_
   ·simp only [spec_l03Row.l0]
    rw [if_neg (by omega)]
   ·rw [show ((r.length : Int) == cols) = decide ((r.length : Int) = cols) from by by_cases e : (r.length : Int) = cols <;> simp [e]]
    exact Ev.now _)
 rw [range_all r (fun a => decide (0 ≤ a ∧ a ≤ p - 1)) _ (fun i hi => by simp only [rd_nat r i hi])] at h
 rw [show rowB p cols r = (if (r.all fun a => decide (0 ≤ a ∧ a ≤ p - 1)) then decide ((r.length : Int) = cols) else false) from by
  unfold rowB elemsB
  cases (r.all fun a => decide (0 ≤ a ∧ a ≤ p - 1)) <;> simp]
 exact h
theorem spec_l03Ok_ev (p cols : Int) (rows : List (List Int)) (hl : rows.length ≤ 4611686018427387904) (hr : ∀ r ∈ rows, r.length ≤ 4611686018427387904) : Ev (fun k => spec_l03Ok.f k p cols rows) (validMB p cols rows) := by
 unfold spec_l03Ok.f validMB
 refine Ev.bind (spec_IsPrime_ev p) ?_
 have stop : Ev (fun k => spec_l03Ok.j0 k true p cols rows) false :=
  Ev.step (f := fun _ => some false) (fun k => by simp only [spec_l03Ok.j0, if_true]) (Ev.now _)
 cases hp : primeB p with
 | false => exact stop
 | true =>
  have hpr := primeB_range hp
  simp only [if_true, spec_l00In_eq, Option.bind_some, Bool.true_and]
  cases hc : decide (0 ≤ cols ∧ cols ≤ 12) with
  | false => exact stop
  | true =>
   simp only [if_true, Bool.true_and]
   by_cases h20 : (rows.length : Int) > 20
   ·rw [decide_eq_true h20, decide_eq_false (show ¬ rows.length ≤ 20 by omega), Bool.false_and]
    exact stop
   ·rw [decide_eq_false h20, decide_eq_true (show rows.length ≤ 20 by omega), Bool.true_and]
    refine Ev.step (f := fun k => spec_l03Ok.l0 k 0 p cols rows) (fun k => by simp only [spec_l03Ok.j0]; rw [if_neg (by decide)]) ?_
    have h := scan_ev (l := fun k i => spec_l03Ok.l0 k i p cols rows) (n := rows.length) (q := fun i => rowB p cols (rd_L1 rows i)) (fin := true) (stop := false)
     (fun i hi hq t ht => by
      refine Ev.step (f := fun k => (spec_l03Row.f k p cols (rd_L1 rows i)).bind fun t => if t = true then spec_l03Ok.l0 k ((i + 1 : Nat) : Int) p cols rows else some false) (fun k => ?_) (Ev.bind (spec_l03Row_ev p cols _ (by omega) (by rw [rdL_nat rows i hi]; exact hr _ (List.getElem_mem hi))) ?_)
      ·simp only [spec_l03Ok.l0]
       rw [if_pos (by omega), if_pos (by omega), wr (by omega) (by omega)]
       rfl
      ·simp only [hq, if_true]
       exact ht)
     (fun i hi hq => by
      refine Ev.step (f := fun k => (spec_l03Row.f k p cols (rd_L1 rows i)).bind fun t => if t = true then spec_l03Ok.l0 k ((i + 1 : Nat) : Int) p cols rows else some false) (fun k => ?_) (Ev.bind (spec_l03Row_ev p cols _ (by omega) (by rw [rdL_nat rows i hi]; exact hr _ (List.getElem_mem hi))) ?_)
      ·simp only [spec_l03Ok.l0]
       rw [if_pos (by omega), if_pos (by omega), wr (by omega) (by omega)]
       rfl
      ·simp only [hq]
       exact Ev.now _)
     (Ev.step (f := fun _ => some true) (fun k => by simp only [spec_l03Ok.l0]; rw [if_neg (by omega)]) (Ev.now _))
    rw [range_all rows (rowB p cols) _ (fun i hi => by simp only [rdL_nat rows i hi])] at h
    rw [show rows.all (rowB p cols) = (if rows.all (rowB p cols) then true else false) from by cases rows.all (rowB p cols) <;> rfl]
    exact h
theorem idxR_ev (p : Nat → List Int → Option Bool) (q : List Int → Bool) (xs : List (List Int)) (hlen : xs.length ≤ 4611686018427387904) (hp : ∀ x ∈ xs, Ev (fun k => p k x) (q x)) (hm : ∀ x k, LeO (p k x) (p (k + 1) x)) :
  ∀ d i : Nat, i + d = xs.length → ∃ r : Int, Ev (fun k => idxR.l0 k (p k) xs (i : Int)) r ∧ decide (0 ≤ r) = (xs.drop i).any q := by
 have up : ∀ {r : Int} {i : Int}, Ev (fun k => idxR.l0 k (p k) xs i) r → Ev (fun k => idxR.l0 k (p (k + 1)) xs i) r := by
  rintro r i ⟨K, h⟩
  exact ⟨K, fun k hk => idxR.mono_p _ _ _ _ _ (fun x => hm x k) r (h k hk)⟩
 have one : ∀ x ∈ xs, Ev (fun k => p (k + 1) x) (q x) := fun x hx => by
  obtain ⟨K, h⟩ := hp x hx
  exact ⟨K, fun k hk => h (k + 1) (by omega)⟩
 intro d
 induction d with
 | zero =>
  intro i hi
  refine ⟨-1, Ev.step (f := fun _ => some (-1)) (fun k => ?_) (Ev.now _), ?_⟩
  ·simp only [idxR.l0]
   rw [if_neg (by omega)]
  ·rw [List.drop_eq_nil_of_le (by omega)]; rfl
 | succ d ih =>
  intro i hi
  have hlt : i < xs.length := by omega
  obtain ⟨r, hr, hd⟩ := ih (i + 1) (by omega)
  have hx := one _ (List.getElem_mem hlt)
  rw [List.drop_eq_getElem_cons hlt, List.any_cons]
  have step : ∀ {r : Int}, Ev (fun k => (p (k + 1) xs[i]).bind fun t => if t = true then some (i : Int) else idxR.l0 k (p (k + 1)) xs ((i + 1 : Nat) : Int)) r → Ev (fun k => idxR.l0 k (p k) xs (i : Int)) r := fun h => by
   refine Ev.step (g := fun k => idxR.l0 k (p k) xs (i : Int)) (fun k => ?_) h
   simp only [idxR.l0]
   rw [if_pos (by omega), if_pos (by omega), rdL_nat xs i hlt, wr (by omega) (by omega)]
   rfl
  cases hq : q xs[i] with
  | true =>
   refine ⟨i, step (Ev.bind hx ?_), ?_⟩
   ·simp only [hq, if_true]; exact Ev.now _
   ·rw [Bool.true_or]; exact decide_eq_true (by omega)
  | false =>
   refine ⟨r, step (Ev.bind hx ?_), ?_⟩
   ·simp only [hq]; exact up hr
   ·rw [Bool.false_or]; exact hd
theorem hasR_ev (p : Nat → List Int → Option Bool) (q : List Int → Bool) (xs : List (List Int)) (hlen : xs.length ≤ 4611686018427387904) (hp : ∀ x ∈ xs, Ev (fun k => p k x) (q x)) (hm : ∀ x k, LeO (p k x) (p (k + 1) x)) : Ev (fun k => hasR.f k (p k) xs) (xs.any q) := by
 obtain ⟨r, hr, hd⟩ := idxR_ev p q xs hlen hp hm xs.length 0 (by omega)
 rw [List.drop_zero] at hd
 rw [← hd]
 exact Ev.bind hr (Ev.now _)
theorem not_any_all {α : Type} (l : List α) (q : α → Bool) : (!(l.any fun a => !q a)) = l.all q := by
 induction l with
 | nil => rfl
 | cons a l ih => rw [List.any_cons, List.all_cons, ← ih, Bool.not_or, Bool.not_not]
theorem impl_ValidMatrix_ev (p cols : Int) (rows : List (List Int)) (hl : rows.length ≤ 4611686018427387904) (hr : ∀ r ∈ rows, r.length ≤ 4611686018427387904) : Ev (fun k => impl_ValidMatrix.f k p cols rows) (validMB p cols rows) := by
 unfold impl_ValidMatrix.f validMB
 refine Ev.bind (impl_IsPrime_ev p) ?_
 cases hp : primeB p with
 | false => exact Ev.now _
 | true =>
  simp only [if_true, impl_within_eq, Option.bind_some, Bool.true_and]
  cases hc : decide (0 ≤ cols ∧ cols ≤ 12) with
  | false => exact Ev.now _
  | true =>
   simp only [if_true, Bool.true_and]
   by_cases h20 : (rows.length : Int) ≤ 20
   ·rw [decide_eq_true (show rows.length ≤ 20 by omega), Bool.true_and, ← not_any_all]
    simp only [if_pos h20]
    refine Ev.bind (hasR_ev (fun k => ValidMatrix_p k p cols) (fun r => !rowB p cols r) rows hl (fun r hrm => ?_) (fun x k => ValidMatrix_p.mono _ _ _ _)) (Ev.now _)
    unfold ValidMatrix_p rowB
    by_cases e : (r.length : Int) = cols
    ·simp only [if_pos e, decide_eq_true e, Bool.true_and]
     have := impl_areElements_ev p r (hr r hrm)
     rw [hp, Bool.true_and] at this
     exact Ev.bind this (Ev.now _)
    ·simp only [if_neg e, decide_eq_false e, Bool.false_and]
     exact Ev.now _
   ·rw [decide_eq_false (show ¬ rows.length ≤ 20 by omega), Bool.false_and]
    simp only [if_neg h20]
    exact Ev.now _
end Go.Proofs.Ytjpbemomocccaaa.P

namespace Go.Proofs.Ytjpbemomocccaaa.P
open Go.RowKit Go.Proofs.YtjpbemomocccaaaW.PrintWords Go.Proofs.YtjpbemomocccaaaW.PrintLast Go.Proofs.YtjpbemomocccaaaW.PrintMore
attribute [local go_sem] max2_int min2_int max_two min_two max_three min_three max_four min_four
set_option linter.unusedVariables false
set_option linter.unusedSimpArgs false
theorem validMB_parts {p cols : Int} {rows : List (List Int)} (h : validMB p cols rows = true) : (2 ≤ p ∧ p ≤ 31) ∧ (0 ≤ cols ∧ cols ≤ 12) ∧ rows.length ≤ 20 ∧ (∀ i, i < rows.length → ((grp rows i).length : Int) = cols ∧ elemsB p (grp rows i) = true) := by
 unfold validMB at h
 simp only [Bool.and_eq_true, decide_eq_true_eq] at h
 refine ⟨primeB_range h.1, h.2.1, h.2.2.1, fun i hi => ?_⟩
 have := List.all_eq_true.mp h.2.2.2 rows[i] (List.getElem_mem hi)
 unfold rowB at this
 simp only [Bool.and_eq_true, decide_eq_true_eq] at this
 rw [show grp rows i = rows[i] from by simp [grp, hi]]
 exact this
theorem sum_le_mul (l : List Nat) (m : Nat) (h : ∀ x ∈ l, x ≤ m) : l.sum ≤ l.length * m := by
 induction l with
 | nil => simp
 | cons a l ih =>
  have := ih (fun x hx => h x (List.mem_cons_of_mem _ hx))
  have := h a (List.mem_cons_self ..)
  rw [List.sum_cons, List.length_cons, Nat.succ_mul]
  omega
theorem validMB_small {p cols : Int} {rows : List (List Int)} (h : validMB p cols rows = true) : rows.length ≤ 20 ∧ (∀ r ∈ rows, r.length ≤ 12) ∧ allLen rows ≤ 240 := by
 obtain ⟨_, h2, h3, h4⟩ := validMB_parts h
 have hr : ∀ r ∈ rows, r.length ≤ 12 := fun r hr => by
  obtain ⟨i, hi, rfl⟩ := List.getElem_of_mem hr
  have := (h4 i hi).1
  rw [show grp rows i = rows[i] from by simp [grp, hi]] at this
  omega
 refine ⟨h3, hr, ?_⟩
 unfold allLen
 have := sum_le_mul (rows.map List.length) 12 (fun x hx => by obtain ⟨r, hr', rfl⟩ := List.mem_map.mp hx; exact hr r hr')
 rw [List.length_map] at this
 omega
end Go.Proofs.Ytjpbemomocccaaa.P

namespace Go.Proofs.Ytjpbemomocccaaa.P
open Go.RowKit Go.Proofs.YtjpbemomocccaaaW.PrintWords Go.Proofs.YtjpbemomocccaaaW.PrintLast Go.Proofs.YtjpbemomocccaaaW.PrintMore
attribute [local go_sem] max2_int min2_int max_two min_two max_three min_three max_four min_four
set_option linter.unusedVariables false
set_option linter.unusedSimpArgs false
def schemeB (h : Int) (o : List Int) (p c : Int) (rows : List (List Int)) : Bool := decide (1 ≤ h ∧ h ≤ 7) && (validMB p c rows && (decide (1 ≤ c) && (decide (o.length = rows.length) && elemsB h o)))
theorem spec_l04Ok_ev (h : Int) (o : List Int) (p c : Int) (rows : List (List Int)) (ho : o.length ≤ 4611686018427387904) (hl : rows.length ≤ 4611686018427387904) (hr : ∀ r ∈ rows, r.length ≤ 4611686018427387904) : Ev (fun k => spec_l04Ok.f k h o p c rows) (schemeB h o p c rows) := by
 unfold spec_l04Ok.f schemeB
 have stop : Ev (fun k => spec_l04Ok.j0 k true h o p c rows) false := Ev.step (f := fun _ => some false) (fun k => by simp only [spec_l04Ok.j0, if_true]) (Ev.now _)
 rw [spec_l00In_eq]
 simp only [Option.bind_some]
 cases h1 : decide (1 ≤ h ∧ h ≤ 7) with
 | false => exact stop
 | true =>
  have h1' := of_decide_eq_true h1
  simp only [if_true, Bool.true_and]
  refine Ev.bind (spec_l03Ok_ev p c rows hl hr) ?_
  cases hv : validMB p c rows with
  | false => exact stop
  | true =>
   simp only [if_true, Bool.true_and]
   by_cases hc : c < 1
   ·simp only [if_pos hc, decide_eq_false (show ¬ 1 ≤ c by omega), Bool.false_and]
    exact stop
   ·simp only [if_neg hc, decide_eq_true (show 1 ≤ c by omega), Bool.true_and]
    by_cases hn : o.length = rows.length
    ·rw [show ((o.length : Int) != (rows.length : Int)) = false from by rw [bne_eq_false_iff_eq]; omega, decide_eq_true hn, Bool.true_and]
     refine Ev.step (f := fun k => spec_l04Ok.l0 k 0 h o p c rows) (fun k => by simp only [spec_l04Ok.j0]; rw [if_neg (by decide)]) ?_
     have hs := scan_ev (l := fun k i => spec_l04Ok.l0 k i h o p c rows) (n := o.length) (q := fun i => decide (0 ≤ rd o i ∧ rd o i ≤ h - 1)) (fin := true) (stop := false)
      (fun i hi hq t ht => by
       refine Ev.step (fun k => ?_) ht
       simp only [spec_l04Ok.l0]
       rw [if_pos (by omega), if_pos (by omega), wr (x := h - 1) (by omega) (by omega), spec_l00In_eq, wr (x := (i : Int) + 1) (by omega) (by omega)]
       simp only [Option.bind_some]
       rw [if_pos hq]
       rfl)
      (fun i hi hq => by
       refine Ev.step (f := fun _ => some false) (fun k => ?_) (Ev.now _)
       simp only [spec_l04Ok.l0]
       rw [if_pos (by omega), if_pos (by omega), wr (x := h - 1) (by omega) (by omega), spec_l00In_eq]
       simp only [Option.bind_some]
       rw [if_neg (by rw [hq]; decide)])
      (Ev.step (f := fun _ => some true) (fun k => by
       simp only [spec_l04Ok.l0]
       rw [if_neg (by omega)]) (Ev.now _))
     rw [range_all o (fun a => decide (0 ≤ a ∧ a ≤ h - 1)) _ (fun i hi => by simp only [rd_nat o i hi])] at hs
     rwa [show (if (o.all fun a => decide (0 ≤ a ∧ a ≤ h - 1)) then true else false) = elemsB h o from by unfold elemsB; cases (o.all fun a => decide (0 ≤ a ∧ a ≤ h - 1)) <;> rfl] at hs
    ·rw [show ((o.length : Int) != (rows.length : Int)) = true from by rw [bne_iff_ne]; omega, decide_eq_false hn, Bool.false_and]
     exact stop
theorem impl_ValidScheme_ev (h : Int) (o : List Int) (p c : Int) (rows : List (List Int)) (ho : o.length ≤ 4611686018427387904) (hl : rows.length ≤ 4611686018427387904) (hr : ∀ r ∈ rows, r.length ≤ 4611686018427387904) : Ev (fun k => impl_ValidScheme.f k h o p c rows) (schemeB h o p c rows) := by
 unfold impl_ValidScheme.f schemeB
 rw [impl_within_eq]
 simp only [Option.bind_some]
 cases h1 : decide (1 ≤ h ∧ h ≤ 7) with
 | false => exact Ev.now _
 | true =>
  have h1' := of_decide_eq_true h1
  simp only [if_true, Bool.true_and]
  refine Ev.bind (impl_ValidMatrix_ev p c rows hl hr) ?_
  cases hv : validMB p c rows with
  | false => exact Ev.now _
  | true =>
   simp only [if_true, Bool.true_and]
   by_cases hc : 1 ≤ c
   ·simp only [if_pos hc, decide_eq_true hc, Bool.true_and]
    by_cases hn : o.length = rows.length
    ·simp only [if_pos (show (o.length : Int) = (rows.length : Int) by omega), decide_eq_true hn, Bool.true_and]
     rw [← not_any_elems]
     refine Ev.bind (hasI_ev (ValidScheme_p h) (fun a => !decide (0 ≤ a ∧ a ≤ h - 1)) o ho (fun x => ?_)) (Ev.now _)
     unfold ValidScheme_p
     rw [impl_within_eq, wr (by omega) (by omega)]
     rfl
    ·simp only [if_neg (show ¬ (o.length : Int) = (rows.length : Int) by omega), decide_eq_false hn, Bool.false_and]
     exact Ev.now _
   ·simp only [if_neg hc, decide_eq_false hc, Bool.false_and]
    exact Ev.now _
theorem schemeB_parts {h : Int} {o : List Int} {p c : Int} {rows : List (List Int)} (hs : schemeB h o p c rows = true) : (1 ≤ h ∧ h ≤ 7) ∧ validMB p c rows = true ∧ 1 ≤ c ∧ o.length = rows.length ∧ elemsB h o = true := by
 unfold schemeB at hs
 simp only [Bool.and_eq_true, decide_eq_true_eq] at hs
 exact ⟨hs.1, hs.2.1, hs.2.2.1, hs.2.2.2.1, hs.2.2.2.2⟩
end Go.Proofs.Ytjpbemomocccaaa.P

namespace Go.Proofs.Ytjpbemomocccaaa.P
open Go.RowKit Go.Proofs.YtjpbemomocccaaaW.PrintWords Go.Proofs.YtjpbemomocccaaaW.PrintLast Go.Proofs.YtjpbemomocccaaaW.PrintMore
attribute [local go_sem] max2_int min2_int max_two min_two max_three min_three max_four min_four
set_option linter.unusedVariables false
set_option linter.unusedSimpArgs false
theorem clone_eq (l : List Int) (hl : l.length ≤ 1048576) : slices_Clone_int64_int64.f l = some l := by
 unfold slices_Clone_int64_int64.f
 rw [if_pos (by omega)]
end Go.Proofs.Ytjpbemomocccaaa.P

namespace Go.Proofs.Ytjpbemomocccaaa.P
open Go.RowKit Go.Proofs.YtjpbemomocccaaaW.PrintWords Go.Proofs.YtjpbemomocccaaaW.PrintLast Go.Proofs.YtjpbemomocccaaaW.PrintMore
attribute [local go_sem] max2_int min2_int max_two min_two max_three min_three max_four min_four
set_option linter.unusedVariables false
set_option linter.unusedSimpArgs false
theorem Concat_ev (l : List (List Int)) (hn : l.length ≤ 1000) (hs : allLen l ≤ 1000000) : Ev (fun k => slices_Concat_int64_int64.f k l) l.flatten := by
 have hpre : ∀ i, i ≤ l.length → preLen l i ≤ 1000000 := fun i _ => Nat.le_trans (preLen_le l i) hs
 have hrow : ∀ i (h : i < l.length), l[i].length ≤ 1000000 := fun i h => by
  have h1 := preLen_succ l i h
  have h2 := hpre (i + 1) h
  omega
 have hflat : ∀ i, i ≤ l.length → ((l.take i).flatten).length ≤ 1000000 := fun i hi => by
  have h1 := hpre i hi
  unfold preLen at h1
  simpa [List.length_flatten, List.map_take] using h1
 have key2 : ∀ d i : Nat, i + d = l.length → Ev (fun k => slices_Concat_int64_int64.l1 k (l.take i).flatten l (l.length : Int) (i : Int)) l.flatten := by
  intro d
  induction d with
  | zero =>
   intro i hi
   refine Ev.step (f := fun _ => some l.flatten) (fun k => ?_) (Ev.now _)
   simp only [slices_Concat_int64_int64.l1]
   rw [if_neg (by omega), List.take_of_length_le (by omega)]
  | succ d ih =>
   intro i hi
   have hlt : i < l.length := by omega
   have h1 := hrow i hlt
   have h2 := hflat i (by omega)
   have e1 : (l.take (i + 1)).flatten = (l.take i).flatten ++ l[i] := by rw [List.take_succ_eq_append_getElem hlt, List.flatten_append]; simp only [List.flatten_cons, List.flatten_nil, List.append_nil]
   refine Ev.step (fun k => ?_) (ih (i + 1) (by omega))
   simp only [slices_Concat_int64_int64.l1]
   rw [if_pos (by omega), if_pos (by omega), if_pos (by omega), rdL_nat l i hlt, if_pos (by omega), wr (x := (i : Int) + 1) (by omega) (by omega), e1]
   rfl
 have key1 : ∀ d i : Nat, i + d = l.length → Ev (fun k => slices_Concat_int64_int64.l0 k l ((preLen l i : Nat) : Int) l (l.length : Int) (i : Int)) l.flatten := by
  intro d
  induction d with
  | zero =>
   intro i hi
   have h3 := hpre i (by omega)
   refine Ev.step (fun k => ?_) (key2 l.length 0 (by omega))
   simp only [slices_Concat_int64_int64.l0]
   rw [if_neg (by omega), if_pos (by omega)]
   rfl
  | succ d ih =>
   intro i hi
   have hlt : i < l.length := by omega
   have h1 := preLen_succ l i hlt
   have h2 := hpre (i + 1) hlt
   refine Ev.step (fun k => ?_) (ih (i + 1) (by omega))
   simp only [slices_Concat_int64_int64.l0]
   rw [if_pos (by omega), if_pos (by omega), if_pos (by omega), rdL_nat l i hlt, wr (x := ((preLen l i : Nat) : Int) + _) (by omega) (by omega), if_neg (by omega), wr (x := (i : Int) + 1) (by omega) (by omega), h1]
   rfl
 have := key1 l.length 0 (by omega)
 unfold slices_Concat_int64_int64.f
 rwa [show preLen l 0 = 0 from by simp [preLen]] at this
theorem Concat3_ev (a b c : List Int) (h : a.length + b.length + c.length ≤ 1000) : Ev (fun k => slices_Concat_int64_int64.f k [a, b, c]) (a ++ b ++ c) := by
 have := Concat_ev [a, b, c] (by simp) (by simp [allLen]; omega)
 simpa using this
def headL (rows : List (List Int)) (i : Nat) : List Int := [rd (grp rows i) 0]
def eitherA (b : Nat) (rows : List (List Int)) (i : Nat) : List Int := headL rows i ++ (grp rows i).drop 1 ++ List.replicate b 0
def eitherZ (a : Nat) (rows : List (List Int)) (i : Nat) : List Int := headL rows i ++ List.replicate a 0 ++ (grp rows i).drop 1
def toldS (h : Int) (o : List Int) (p c : Int) (rows : List (List Int)) : Int × List Int × Int × Int × List (List Int) × Int := if schemeB h o p c rows then (h, o, p, c, rows, 0) else (0, [], 0, 0, [], 3)
def eitherB (h : Int) (o : List Int) (p c : Int) (rows : List (List Int)) (h' : Int) (o' : List Int) (p' c' : Int) (rows' : List (List Int)) : Int × List Int × Int × Int × List (List Int) × Int :=
 if schemeB h o p c rows && schemeB h' o' p' c' rows' then (if h = h' ∧ p = p' then toldS h (o ++ o') p (c + c' - 1) ((List.range rows.length).map (eitherA (c' - 1).toNat rows) ++ (List.range rows'.length).map (eitherZ (c - 1).toNat rows')) else (0, [], 0, 0, [], 2)) else (0, [], 0, 0, [], 1)
theorem spec_l04Told_ev (h : Int) (o : List Int) (p c : Int) (rows : List (List Int)) (ho : o.length ≤ 4611686018427387904) (hl : rows.length ≤ 4611686018427387904) (hr : ∀ r ∈ rows, r.length ≤ 4611686018427387904) : Ev (fun k => spec_l04Told.f k h o p c rows) (toldS h o p c rows) := by
 unfold spec_l04Told.f toldS
 refine Ev.bind (spec_l04Ok_ev h o p c rows ho hl hr) ?_
 cases schemeB h o p c rows with
 | true => exact Ev.now _
 | false => exact Ev.now _
theorem impl_schemeOrLimit_ev (h : Int) (o : List Int) (p c : Int) (rows : List (List Int)) (ho : o.length ≤ 4611686018427387904) (hl : rows.length ≤ 4611686018427387904) (hr : ∀ r ∈ rows, r.length ≤ 4611686018427387904) : Ev (fun k => impl_schemeOrLimit.f k h o p c rows) (toldS h o p c rows) := by
 unfold impl_schemeOrLimit.f toldS
 refine Ev.bind (impl_ValidScheme_ev h o p c rows ho hl hr) ?_
 cases schemeB h o p c rows with
 | true => exact Ev.now _
 | false => exact Ev.now _
theorem schemeB_small {h : Int} {o : List Int} {p c : Int} {rows : List (List Int)} (hs : schemeB h o p c rows = true) : o.length = rows.length ∧ rows.length ≤ 20 ∧ 1 ≤ c ∧ c ≤ 12 ∧ (∀ i, i < rows.length → ((grp rows i).length : Int) = c) := by
 obtain ⟨_, hv, h1, h2, _⟩ := schemeB_parts hs
 obtain ⟨_, h3, h4, h5⟩ := validMB_parts hv
 exact ⟨h2, h4, h1, h3.2, fun i hi => (h5 i hi).1⟩
theorem eitherA_length {b : Nat} {rows : List (List Int)} {c : Int} (hc : 1 ≤ c ∧ c ≤ 12) {i : Nat} (hi : ((grp rows i).length : Int) = c) : (eitherA b rows i).length ≤ 12 + b := by
 simp [eitherA, headL]; omega
theorem eitherZ_length {a : Nat} {rows : List (List Int)} {c : Int} (hc : 1 ≤ c ∧ c ≤ 12) {i : Nat} (hi : ((grp rows i).length : Int) = c) : (eitherZ a rows i).length ≤ 12 + a := by
 simp [eitherZ, headL]; omega
theorem either_rows {c c' : Int} {rows rows' : List (List Int)} (hc : 1 ≤ c ∧ c ≤ 12) (hc' : 1 ≤ c' ∧ c' ≤ 12) (h : ∀ i, i < rows.length → ((grp rows i).length : Int) = c) (h' : ∀ i, i < rows'.length → ((grp rows' i).length : Int) = c') :
  ∀ r ∈ (List.range rows.length).map (eitherA (c' - 1).toNat rows) ++ (List.range rows'.length).map (eitherZ (c - 1).toNat rows'), r.length ≤ 4611686018427387904 := by
 intro r hr
 rcases List.mem_append.mp hr with hr | hr
 ·obtain ⟨i, hi, rfl⟩ := List.mem_map.mp hr
  have := eitherA_length (b := (c' - 1).toNat) hc (h i (by simpa using hi))
  omega
 ·obtain ⟨i, hi, rfl⟩ := List.mem_map.mp hr
  have := eitherZ_length (a := (c - 1).toNat) hc' (h' i (by simpa using hi))
  omega
theorem spec_EitherScheme_ev (h : Int) (o : List Int) (p c : Int) (rows : List (List Int)) (h' : Int) (o' : List Int) (p' c' : Int) (rows' : List (List Int)) (ho : o.length ≤ 4611686018427387904) (hl : rows.length ≤ 4611686018427387904) (hr : ∀ r ∈ rows, r.length ≤ 4611686018427387904) (ho' : o'.length ≤ 4611686018427387904) (hl' : rows'.length ≤ 4611686018427387904) (hr' : ∀ r ∈ rows', r.length ≤ 4611686018427387904) :
  Ev (fun k => spec_EitherScheme.f k h o p c rows h' o' p' c' rows') (eitherB h o p c rows h' o' p' c' rows') := by
 unfold spec_EitherScheme.f
 have pair : Ev (fun k => spec_l04Pair.f k h o p c rows h' o' p' c' rows') (if schemeB h o p c rows && schemeB h' o' p' c' rows' then (if h = h' ∧ p = p' then 0 else 2) else 1) := by
  unfold spec_l04Pair.f
  refine Ev.bind (spec_l04Ok_ev h o p c rows ho hl hr) ?_
  cases schemeB h o p c rows with
  | false =>
   simp only [Bool.false_and]
   refine Ev.step (f := fun _ => some 1) (fun k => ?_) (Ev.now _)
   simp [spec_l04Pair.j0]
  | true =>
   simp only [if_true, Bool.true_and]
   refine Ev.bind (spec_l04Ok_ev h' o' p' c' rows' ho' hl' hr') ?_
   cases schemeB h' o' p' c' rows' with
   | false =>
    refine Ev.step (f := fun _ => some 1) (fun k => ?_) (Ev.now _)
    simp [spec_l04Pair.j0]
   | true =>
    refine Ev.step (f := fun _ => some (if h = h' ∧ p = p' then 0 else 2)) (fun k => ?_) (Ev.now _)
    simp only [spec_l04Pair.j0, Bool.not_true]
    by_cases e1 : h = h' <;> by_cases e2 : p = p' <;> simp [e1, e2]
 refine Ev.bind pair ?_
 unfold eitherB
 cases hs : schemeB h o p c rows with
 | false => simp only [Bool.false_and]; exact Ev.now _
 | true =>
  cases hs' : schemeB h' o' p' c' rows' with
  | false => simp only [Bool.and_false]; exact Ev.now _
  | true =>
   simp only [Bool.and_self, if_true]
   by_cases he : h = h' ∧ p = p'
   case neg => simp only [if_neg he]; exact Ev.now _
   simp only [if_pos he, if_true]
   obtain ⟨z1, z2, z3, z4, z5⟩ := schemeB_small hs
   obtain ⟨y1, y2, y3, y4, y5⟩ := schemeB_small hs'
   refine build_ev (l := fun k i acc => spec_EitherScheme.l0 k acc [] i h o p c rows h' o' p' c' rows') rows.length (headL rows) (fun i acc hi ha r hr => ?_) ?_
   ·have := z5 i hi
    refine Ev.step (fun k => ?_) hr
    simp only [spec_EitherScheme.l0]
    rw [if_pos (by omega), if_pos (by omega), if_pos (by omega), rdL_grp rows i hi, if_pos (by omega), if_pos (by omega), wr (by omega) (by omega)]
    rfl
   ·refine Ev.step (f := fun k => spec_EitherScheme.l1 k ((List.range rows.length).map (headL rows)) [] 0 h o p c rows h' o' p' c' rows') (fun k => ?_) ?_
    ·simp only [spec_EitherScheme.l0]
     rw [if_neg (by omega)]
    ·refine build_ev (l := fun k i acc => spec_EitherScheme.l1 k ((List.range rows.length).map (headL rows)) acc i h o p c rows h' o' p' c' rows') rows'.length (headL rows') (fun i acc hi ha r hr => ?_) ?_
     ·have := y5 i hi
      refine Ev.step (fun k => ?_) hr
      simp only [spec_EitherScheme.l1]
      rw [if_pos (by omega), if_pos (by omega), if_pos (by omega), rdL_grp rows' i hi, if_pos (by omega), if_pos (by omega), wr (by omega) (by omega)]
      rfl
     ·have joined : Ev (fun k => spec_l04Joined.f k h o p c rows h' o' p' c' rows' ((List.range rows.length).map (headL rows)) ((List.range rows'.length).map (headL rows'))) (h, o ++ o', p, 0, (List.range rows.length).map (eitherA (c' - 1).toNat rows) ++ (List.range rows'.length).map (eitherZ (c - 1).toNat rows'), (c - 1) + (c' - 1)) := by
       unfold spec_l04Joined.f
       have own : ∀ l : List Int, l.length ≤ 100 → spec_l00Own.f l = some l := fun l hl => by
        unfold spec_l00Own.f
        simp only [Option.bind_some, List.length_nil, List.nil_append]
        rw [if_pos (by omega)]
       rw [own o (by omega)]
       simp only [Option.bind_some]
       simp only [if_pos (show o.length + o'.length < 17592186044416 by omega), wr (x := c - 1) (by omega) (by omega), wr (x := c' - 1) (by omega) (by omega)]
       refine build_ev (l := fun k i acc => spec_l04Joined.l0 k ((List.range rows.length).map (headL rows)) ((List.range rows'.length).map (headL rows')) (c - 1) (c' - 1) i h o p c rows h' o' p' c' rows' h (o ++ o') p 0 acc) rows.length (eitherA (c' - 1).toNat rows) (fun i acc hi ha r hr => ?_) ?_
       ·have hz := z5 i hi
        refine Ev.step (fun k => ?_) hr
        have hg : rd_L1 ((List.range rows.length).map (headL rows)) (i : Int) = headL rows i := by rw [rdL_nat _ i (by simpa using hi)]; simp
        simp only [spec_l04Joined.l0]
        rw [if_pos (by simp; omega), if_pos (by omega), hg, own _ (by simp [headL])]
        simp only [Option.bind_some]
        rw [if_pos (by omega), rdL_grp rows i hi, if_pos (by omega), if_pos (by simp [headL]; omega), if_pos (by omega), if_pos (by simp [headL]; omega), if_pos (by omega), wr (x := (i : Int) + 1) (by omega) (by omega)]
        rfl
       ·refine Ev.step (f := fun k => spec_l04Joined.l1 k ((List.range rows'.length).map (headL rows')) (c - 1) (c' - 1) 0 h' o' p' c' rows' h (o ++ o') p 0 ((List.range rows.length).map (eitherA (c' - 1).toNat rows))) (fun k => ?_) ?_
        ·simp only [spec_l04Joined.l0]
         rw [if_neg (by simp)]
        ·have hb := build_ev (l := fun k i acc => spec_l04Joined.l1 k ((List.range rows'.length).map (headL rows')) (c - 1) (c' - 1) i h' o' p' c' rows' h (o ++ o') p 0 ((List.range rows.length).map (eitherA (c' - 1).toNat rows) ++ acc)) (fin := (h, o ++ o', p, (0 : Int), (List.range rows.length).map (eitherA (c' - 1).toNat rows) ++ (List.range rows'.length).map (eitherZ (c - 1).toNat rows'), (c - 1) + (c' - 1))) rows'.length (eitherZ (c - 1).toNat rows') (fun i acc hi ha r hr => ?_) ?_
         ·simpa using hb
         ·have hz := y5 i hi
          refine Ev.step (fun k => ?_) hr
          have hg : rd_L1 ((List.range rows'.length).map (headL rows')) (i : Int) = headL rows' i := by rw [rdL_nat _ i (by simpa using hi)]; simp
          simp only [spec_l04Joined.l1]
          rw [if_pos (by simp; omega), if_pos (by omega), hg, own _ (by simp [headL])]
          simp only [Option.bind_some]
          rw [if_pos (by omega), if_pos (by simp [headL]; omega), if_pos (by omega), rdL_grp rows' i hi, if_pos (by omega), if_pos (by simp [headL]; omega), if_pos (by simp; omega), wr (x := (i : Int) + 1) (by omega) (by omega), List.append_assoc]
          rfl
         ·refine Ev.step (f := fun _ => some (h, o ++ o', p, (0 : Int), (List.range rows.length).map (eitherA (c' - 1).toNat rows) ++ (List.range rows'.length).map (eitherZ (c - 1).toNat rows'), (c - 1) + (c' - 1))) (fun k => ?_) (Ev.now _)
          simp only [spec_l04Joined.l1]
          rw [if_neg (by simp), wr (by omega) (by omega)]
      have told := spec_l04Told_ev h (o ++ o') p (c + c' - 1) ((List.range rows.length).map (eitherA (c' - 1).toNat rows) ++ (List.range rows'.length).map (eitherZ (c - 1).toNat rows')) (by simp; omega) (by simp; omega) (either_rows ⟨z3, z4⟩ ⟨y3, y4⟩ z5 y5)
      refine Ev.step (f := fun k => (spec_l04Joined.f k h o p c rows h' o' p' c' rows' ((List.range rows.length).map (headL rows)) ((List.range rows'.length).map (headL rows'))).bind fun bt => (spec_l04Told.f k bt.1 bt.2.1 bt.2.2.1 (wrap64 (1 + bt.2.2.2.2.2)) bt.2.2.2.2.1).bind fun b => some (b.1, b.2.1, b.2.2.1, b.2.2.2.1, b.2.2.2.2.1, b.2.2.2.2.2)) (fun k => ?_) ?_
      ·simp only [spec_EitherScheme.l1]
       rw [if_neg (by omega)]
      ·refine Ev.bind joined ?_
       simp only
       rw [wr (by omega) (by omega), show 1 + (c - 1 + (c' - 1)) = c + c' - 1 from by omega]
       exact Ev.bind told (Ev.now _)
theorem impl_EitherScheme_ev (h : Int) (o : List Int) (p c : Int) (rows : List (List Int)) (h' : Int) (o' : List Int) (p' c' : Int) (rows' : List (List Int)) (ho : o.length ≤ 4611686018427387904) (hl : rows.length ≤ 4611686018427387904) (hr : ∀ r ∈ rows, r.length ≤ 4611686018427387904) (ho' : o'.length ≤ 4611686018427387904) (hl' : rows'.length ≤ 4611686018427387904) (hr' : ∀ r ∈ rows', r.length ≤ 4611686018427387904) :
  Ev (fun k => impl_EitherScheme.f k h o p c rows h' o' p' c' rows') (eitherB h o p c rows h' o' p' c' rows') := by
 unfold impl_EitherScheme.f impl_joined.f eitherB
 refine Ev.bind (impl_ValidScheme_ev h o p c rows ho hl hr) ?_
 cases hs : schemeB h o p c rows with
 | false =>
  simp only [Bool.false_and]
  refine Ev.step (f := fun _ => some _) (fun k => ?_) (Ev.now _)
  simp only [impl_joined.j0]
  simp
 | true =>
  simp only [if_true, Bool.true_and]
  refine Ev.bind (impl_ValidScheme_ev h' o' p' c' rows' ho' hl' hr') ?_
  cases hs' : schemeB h' o' p' c' rows' with
  | false =>
   refine Ev.step (f := fun _ => some _) (fun k => ?_) (Ev.now _)
   simp only [impl_joined.j0]
   simp
  | true =>
   simp only [if_true, Bool.not_true]
   by_cases he : h = h' ∧ p = p'
   case neg =>
    rw [if_neg he]
    refine Ev.step (f := fun _ => some _) (fun k => ?_) (Ev.now _)
    simp only [impl_joined.j0]
    rw [if_neg (by decide)]
    by_cases e1 : h = h'
    ·rw [if_pos e1, if_neg (fun e2 => he ⟨e1, e2⟩)]
    ·rw [if_neg e1]
   obtain ⟨z1, z2, z3, z4, z5⟩ := schemeB_small hs
   obtain ⟨y1, y2, y3, y4, y5⟩ := schemeB_small hs'
   have told := impl_schemeOrLimit_ev h (o ++ o') p (c + c' - 1) ((List.range rows.length).map (eitherA (c' - 1).toNat rows) ++ (List.range rows'.length).map (eitherZ (c - 1).toNat rows')) (by simp; omega) (by simp; omega) (either_rows ⟨z3, z4⟩ ⟨y3, y4⟩ z5 y5)
   rw [if_pos he]
   refine Ev.step (f := fun k => impl_joined.l0 k rows (rows.length : Int) 0 h o p c rows h' o' p' c' rows' h (o ++ o') p (c + c' - 1) []) (fun k => ?_) ?_
   ·simp only [impl_joined.j0]
    rw [if_neg (by decide), if_pos he.1, if_pos he.2, clone_eq o (by omega)]
    simp only [Option.bind_some]
    rw [if_pos (by omega)]
    simp only [List.length_cons, List.length_nil]
    rw [wr (x := (((0 + 1 : Nat) : Int) + c)) (by omega) (by omega), wr (x := ((0 + 1 : Nat) : Int) + c - 1) (by omega) (by omega), wr (x := ((0 + 1 : Nat) : Int) + c - 1 + c') (by omega) (by omega), wr (by omega) (by omega), show ((0 + 1 : Nat) : Int) + c - 1 + c' - 1 = c + c' - 1 from by omega]
   ·refine build_ev (l := fun k i acc => impl_joined.l0 k rows (rows.length : Int) i h o p c rows h' o' p' c' rows' h (o ++ o') p (c + c' - 1) acc) rows.length (eitherA (c' - 1).toNat rows) (fun i acc hi ha r hr => ?_) ?_
    ·have hz := z5 i hi
     have cc := Concat3_ev [rd (grp rows i) 0] ((grp rows i).drop 1) (List.replicate (c' - 1).toNat 0) (by simp; omega)
     refine Ev.step (f := fun k => (slices_Concat_int64_int64.f k [[rd (grp rows i) 0], (grp rows i).drop 1, List.replicate (c' - 1).toNat 0]).bind fun t => impl_joined.l0 k rows (rows.length : Int) ((i + 1 : Nat) : Int) h o p c rows h' o' p' c' rows' h (o ++ o') p (c + c' - 1) (acc ++ [t])) (fun k => ?_) (Ev.bind cc hr)
     simp only [impl_joined.l0]
     rw [if_pos (by omega), if_pos (by omega), if_pos (by omega), rdL_grp rows i hi, if_pos (by omega), if_pos (by omega), wr (x := c' - 1) (by omega) (by omega), if_pos (by omega), if_pos (by omega)]
     simp only [if_pos (show acc.length < 5864062014805 by omega), wr (x := (i : Int) + 1) (by omega) (by omega)]
     rfl
    ·refine Ev.step (f := fun k => impl_joined.l1 k rows' (rows'.length : Int) 0 h o p c rows h (o ++ o') p (c + c' - 1) ((List.range rows.length).map (eitherA (c' - 1).toNat rows))) (fun k => ?_) ?_
     ·simp only [impl_joined.l0]
      rw [if_neg (by omega)]
     ·have hb := build_ev (l := fun k i acc => impl_joined.l1 k rows' (rows'.length : Int) i h o p c rows h (o ++ o') p (c + c' - 1) ((List.range rows.length).map (eitherA (c' - 1).toNat rows) ++ acc)) (fin := toldS h (o ++ o') p (c + c' - 1) ((List.range rows.length).map (eitherA (c' - 1).toNat rows) ++ (List.range rows'.length).map (eitherZ (c - 1).toNat rows'))) rows'.length (eitherZ (c - 1).toNat rows') (fun i acc hi ha r hr => ?_) ?_
      ·simpa using hb
      ·have hz := y5 i hi
       have cc := Concat3_ev [rd (grp rows' i) 0] (List.replicate (c - 1).toNat 0) ((grp rows' i).drop 1) (by simp; omega)
       refine Ev.step (f := fun k => (slices_Concat_int64_int64.f k [[rd (grp rows' i) 0], List.replicate (c - 1).toNat 0, (grp rows' i).drop 1]).bind fun t => impl_joined.l1 k rows' (rows'.length : Int) ((i + 1 : Nat) : Int) h o p c rows h (o ++ o') p (c + c' - 1) (((List.range rows.length).map (eitherA (c' - 1).toNat rows) ++ acc) ++ [t])) (fun k => ?_) (Ev.bind cc ?_)
       ·simp only [impl_joined.l1]
        rw [if_pos (by omega), if_pos (by omega), if_pos (by omega), rdL_grp rows' i hi, if_pos (by omega), wr (x := c - 1) (by omega) (by omega), if_pos (by omega), if_pos (by omega), if_pos (by omega)]
        simp only [if_pos (show ((List.range rows.length).map (eitherA (c' - 1).toNat rows) ++ acc).length < 5864062014805 by simp; omega), wr (x := (i : Int) + 1) (by omega) (by omega)]
        rfl
       ·rw [List.append_assoc]
        exact hr
      ·refine Ev.step (f := fun k => (impl_schemeOrLimit.f k h (o ++ o') p (c + c' - 1) ((List.range rows.length).map (eitherA (c' - 1).toNat rows) ++ (List.range rows'.length).map (eitherZ (c - 1).toNat rows'))).bind fun b => some (b.1, b.2.1, b.2.2.1, b.2.2.2.1, b.2.2.2.2.1, b.2.2.2.2.2)) (fun k => ?_) (Ev.bind told (Ev.now _))
       simp only [impl_joined.l1]
       rw [if_neg (by omega)]
theorem toldS_size (h : Int) (o : List Int) (p c : Int) (rows : List (List Int)) : ∃ a b d e l z, toldS h o p c rows = (a, b, d, e, l, z) ∧ b.length ≤ 20 ∧ l.length ≤ 20 ∧ (∀ r ∈ l, r.length ≤ 12) ∧ allLen l ≤ 240 := by
 unfold toldS
 cases hs : schemeB h o p c rows with
 | true =>
  obtain ⟨z1, z2, _, _, _⟩ := schemeB_small hs
  obtain ⟨y1, y2, y3⟩ := validMB_small (schemeB_parts hs).2.1
  exact ⟨h, o, p, c, rows, 0, rfl, by omega, y1, y2, y3⟩
 | false => exact ⟨0, [], 0, 0, [], 3, rfl, by simp, by simp, by simp, by simp [allLen]⟩
theorem eitherB_size (h : Int) (o : List Int) (p c : Int) (rows : List (List Int)) (h' : Int) (o' : List Int) (p' c' : Int) (rows' : List (List Int)) : ∃ a b d e l z, eitherB h o p c rows h' o' p' c' rows' = (a, b, d, e, l, z) ∧ b.length ≤ 20 ∧ l.length ≤ 20 ∧ (∀ r ∈ l, r.length ≤ 12) ∧ allLen l ≤ 240 := by
 unfold eitherB
 split
 ·split
  ·exact toldS_size _ _ _ _ _
  ·exact ⟨0, [], 0, 0, [], 2, rfl, by simp, by simp, by simp, by simp [allLen]⟩
 ·exact ⟨0, [], 0, 0, [], 1, rfl, by simp, by simp, by simp, by simp [allLen]⟩
end Go.Proofs.Ytjpbemomocccaaa.P

namespace Go.Proofs.Ytjpbemomocccaaa.P
open Go.RowKit Go.Proofs.YtjpbemomocccaaaW.PrintWords Go.Proofs.YtjpbemomocccaaaW.PrintLast Go.Proofs.YtjpbemomocccaaaW.PrintMore
attribute [local go_sem] max2_int min2_int max_two min_two max_three min_three max_four min_four
set_option linter.unusedVariables false
set_option linter.unusedSimpArgs false
def From (P : Nat → Prop) : Prop := ∃ K, ∀ k, K ≤ k → P k
theorem From.and {P Q : Nat → Prop} (hp : From P) (hq : From Q) : From fun k => P k ∧ Q k := by
 obtain ⟨K, hK⟩ := hp
 obtain ⟨L, hL⟩ := hq
 exact ⟨max K L, fun k h => ⟨hK k (by omega), hL k (by omega)⟩⟩
theorem From.now {P : Nat → Prop} (h : From P) : ∃ k, P k := by
 obtain ⟨K, hK⟩ := h
 exact ⟨K, hK K (Nat.le_refl _)⟩
end Go.Proofs.Ytjpbemomocccaaa.P

namespace Go.Proofs.Ytjpbemomocccaaa.P
open Go.RowKit Go.Proofs.YtjpbemomocccaaaW.PrintWords Go.Proofs.YtjpbemomocccaaaW.PrintLast Go.Proofs.YtjpbemomocccaaaW.PrintMore
attribute [local go_sem] max2_int min2_int max_two min_two max_three min_three max_four min_four
set_option linter.unusedVariables false
set_option linter.unusedSimpArgs false
theorem szScheme_ev (c : Int) (o : List Int) (p q : Int) (rows : List (List Int)) (a : Int) (ha : 0 ≤ a ∧ a ≤ 1048576) (ho : o.length ≤ 9223372036854775807) (hl : rows.length ≤ 9223372036854775807) (hr : ∀ r ∈ rows, r.length ≤ 9223372036854775807) :
  Ev (fun k => laws_szScheme.f k c o p q rows a) (if ((o.length + bulk rows : Nat) : Int) ≤ a then a - ((o.length + bulk rows : Nat) : Int) else -1) := by
 unfold laws_szScheme.f
 rw [szInt64S_eq o a ha ho]
 simp only [Option.bind_some]
 by_cases h : (o.length : Int) ≤ a
 ·simp only [if_pos h, if_neg (show ¬ (a - (o.length : Int) < 0) by omega)]
  refine Ev.bind (szMatrix_ev p q rows _ (by omega) hl hr) ?_
  by_cases h2 : (bulk rows : Int) ≤ a - (o.length : Int)
  ·simp only [if_pos h2, if_neg (show ¬ (a - (o.length : Int) - (bulk rows : Int) < 0) by omega)]
   rw [if_pos (by omega), show a - ((o.length + bulk rows : Nat) : Int) = a - (o.length : Int) - (bulk rows : Int) from by omega]
   exact Ev.now _
  ·simp only [if_neg h2]
   rw [show (if ((o.length + bulk rows : Nat) : Int) ≤ a then a - ((o.length + bulk rows : Nat) : Int) else -1) = -1 from if_neg (by omega)]
   exact Ev.now _
 ·simp only [if_neg h]
  rw [show (if ((o.length + bulk rows : Nat) : Int) ≤ a then a - ((o.length + bulk rows : Nat) : Int) else -1) = -1 from if_neg (by omega)]
  exact Ev.now _
theorem toScheme_ev (c : Int) (o : List Int) (p q : Int) (l : List (List Int)) (ho : o.length ≤ 1048576) (hl : l.length ≤ 1048576) (hr : ∀ r ∈ l, r.length ≤ 1048576) : Ev (fun k => laws_toScheme.f k c o p q l) (c, o, p, q, l) := by
 unfold laws_toScheme.f
 exact Ev.bind (toInt64S_ev o ho) (Ev.bind (toMatrix_ev p q l hl hr) (Ev.now _))
theorem eqScheme_same (c : Int) (o : List Int) (p q : Int) (l : List (List Int)) (ho : o.length ≤ 1048576) (hl : l.length ≤ 1048576) (hr : ∀ r ∈ l, r.length ≤ 1048576) : Ev (fun k => laws_eqScheme.f k c o p q l c o p q l) true := by
 unfold laws_eqScheme.f
 simp only [if_true]
 refine Ev.bind (eqInt64S_same o ho) ?_
 simp only [if_true]
 refine Ev.bind (eqMatrix_same p q l hl hr) ?_
 simp only [if_true]
 exact Ev.now _
end Go.Proofs.Ytjpbemomocccaaa.P

/- For all schemes the program's EitherScheme and the reference's answer alike, the arguments stay, and the result is memory of its own. -/
namespace Go.Proofs.Ytjpbemomocccaaa.Pure
open Go.RowKit Go.Proofs.Ytjpbemomocccaaa.P Go.Proofs.YtjpbemomocccaaaW.PrintWords Go.Proofs.YtjpbemomocccaaaW.PrintLast Go.Proofs.YtjpbemomocccaaaW.PrintMore
set_option linter.unusedVariables false
set_option linter.unusedSimpArgs false
theorem FnExactEitherScheme : laws_FnExactEitherScheme.Pure := by
 intro x y hx hy
 obtain ⟨xc, xo, xp, xq, xs⟩ := x
 obtain ⟨yc, yo, yp, yq, ys⟩ := y
 have ho : xo.length ≤ 9223372036854775807 := hx.2.1.1
 have hl : xs.length ≤ 9223372036854775807 := hx.2.2.2.2.1
 have hr : ∀ r ∈ xs, r.length ≤ 9223372036854775807 := fun r h => (hx.2.2.2.2.2 r h).1
 have ho' : yo.length ≤ 9223372036854775807 := hy.2.1.1
 have hl' : ys.length ≤ 9223372036854775807 := hy.2.2.2.2.1
 have hr' : ∀ r ∈ ys, r.length ≤ 9223372036854775807 := fun r h => (hy.2.2.2.2.2 r h).1
 have s1 := szScheme_ev xc xo xp xq xs 1048576 (by omega) ho hl hr
 by_cases h : ((xo.length + bulk xs : Nat) : Int) ≤ 1048576
 ·rw [if_pos h] at s1
  have s2 := szScheme_ev yc yo yp yq ys (1048576 - ((xo.length + bulk xs : Nat) : Int)) (by omega) ho' hl' hr'
  by_cases h' : ((yo.length + bulk ys : Nat) : Int) ≤ 1048576 - ((xo.length + bulk xs : Nat) : Int)
  ·rw [if_pos h'] at s2
   obtain ⟨h1, h2⟩ := bulk_len (rows := xs) (n := 1048576) (by omega)
   obtain ⟨h1', h2'⟩ := bulk_len (rows := ys) (n := 1048576) (by omega)
   have h5 : xo.length + yo.length + allLen xs + allLen ys ≤ 1048576 := by unfold bulk at h h'; unfold allLen; omega
   obtain ⟨r1, r2, r3, r4, r5, r6, er, z0, z1, z2, z3⟩ := eitherB_size xc xo xp xq xs yc yo yp yq ys
   have z4 : ∀ r ∈ r5, r.length ≤ 1048576 := fun r hr => Nat.le_trans (z2 r hr) (by omega)
   have h3 : ∀ r ∈ xs, r.length ≤ 4611686018427387904 := fun r hr => Nat.le_trans (h2 r hr) (by omega)
   have h3' : ∀ r ∈ ys, r.length ≤ 4611686018427387904 := fun r hr => Nat.le_trans (h2' r hr) (by omega)
   have e1 := spec_EitherScheme_ev xc xo xp xq xs yc yo yp yq ys (by omega) (by omega) h3 (by omega) (by omega) h3'
   have e2 := impl_EitherScheme_ev xc xo xp xq xs yc yo yp yq ys (by omega) (by omega) h3 (by omega) (by omega) h3'
   rw [er] at e1 e2
   obtain ⟨k, a1, a2, a3, a4, a5, a6, a7, a8, a9, b1, b2, b3, b4⟩ := From.now (From.and s1 (From.and s2 (From.and (toScheme_ev xc xo xp xq xs (by omega) h1 h2) (From.and (toScheme_ev yc yo yp yq ys (by omega) h1' h2') (From.and e1 (From.and e2 (From.and (eqScheme_same r1 r2 r3 r4 r5 (by omega) (by omega) z4) (From.and (eqScheme_same xc xo xp xq xs (by omega) h1 h2) (From.and (eqScheme_same yc yo yp yq ys (by omega) h1' h2') (From.and (markScheme_ev xc xo xp xq xs 1 (by omega) (by omega) (by omega) (by omega) (by omega)) (From.and (markScheme_ev yc yo yp yq ys (1 + (xo.length : Int) + (allLen xs : Int)) (by omega) (by omega) (by omega) (by omega) (by omega)) (From.and (markScheme_ev r1 r2 r3 r4 r5 1 (by omega) (by omega) (by omega) (by omega) (by omega)) (heldScheme_ev r1 r2 r3 r4 r5 1 (by omega) (by omega) (by omega) (by omega) (by omega))))))))))))))
   exact Or.inr (Or.inr ⟨k, _, _, r1, r2, r3, r4, r5, r6, _, _, _, _, _, _, _, _, _, a1, decide_eq_false (by omega), a2, decide_eq_false (by omega), a3, a4, a5, a3, a4, a6, a7, a3, a8, a4, a9, b1, b2, decide_eq_false (by omega), a7, b3, b4, decide_eq_false (by omega), a3, a4, a6, a7, b4, decide_eq_false (by omega)⟩)
  ·rw [if_neg h'] at s2
   obtain ⟨k, a1, a2⟩ := From.now (From.and s1 s2)
   exact Or.inr (Or.inl ⟨k, _, _, a1, decide_eq_false (by omega), a2, by decide⟩)
 ·rw [if_neg h] at s1
  obtain ⟨k, a1⟩ := From.now s1
  exact Or.inl ⟨k, _, a1, by decide⟩
end Go.Proofs.Ytjpbemomocccaaa.Pure

/- The row of the law FnExactEitherScheme: whatever its arguments, it answers true, and they read as before. No condition. -/
namespace Go.Proofs.Ytjpbemomocccaaa.fnExactEitherScheme
open Go.ChangeShapes Go.WideShapes Go.ChangeAt Go.RowKit Go.Proofs.Ytjpbemomocccaaa.P Go.Proofs.YtjpbemomocccaaaW.PrintWords Go.Proofs.YtjpbemomocccaaaW.PrintLast Go.Proofs.YtjpbemomocccaaaW.PrintMore
open Go.ChangeMaps (open_string shut_string)
set_option linter.unusedVariables false
theorem own : ownKnob Try.prog.godebug = none := by kernel_rfl
theorem laidOut : laidOutB Try.prog = true := by kernel_rfl
set_option maxRecDepth 100000 in
theorem lifted (os : Os) (started : os.Started) (H : Type) (enc : TypeId × Value → H) :
  ReturnsInHanded {} Try.checked os 11 .any (Rows.fnExactEitherSchemeSpec.pre6 enc Try.prog Try.f11 Rows.fnExactEitherSchemeRow.domain false) (Rows.fnExactEitherSchemeSpec.post enc Try.prog Try.f11 false true false false) := by
 refine returnsInHanded_of_change_sized (C := Try.checked) own started (by kernel_rfl) Try.func11
  (ChangeSpec.witness6 (enc := enc) (C := Try.checked) false ⟨#[], #[.agg #[.int .i64 0, .slice none 0 0, .int .i64 0, .int .i64 0, .slice none 0 0], .agg #[.int .i64 0, .slice none 0 0, .int .i64 0, .int .i64 0, .slice none 0 0]], []⟩ 8 (by kernel_rfl) (by kernel_rfl) (by kernel_rfl) (by kernel_rfl)) ?_
 intro W base args ds gs before hval0 hW hcnd hsz0 _
 have hval : ∀ (j : Nat) t v, Try.f11.params[j]? = some t → args[j]? = some v → Value.okWide Try.prog W .any base t v := hval0
 have hW' := hW
 obtain ⟨p, q, hA0, hV, rfl, hfz, hnd⟩ := hW
 have hA : DataW.TrodAll enc Try.prog W 0 (fun _ => true) true Try.f11.params.toList args.toList ds p := hA0
 rw [Try.params11] at hA hval
 obtain ⟨v0, vs0, d0, ds0, p0, q0, hargs, rfl, rfl, h0, r0⟩ := trodAll_cons hA
 obtain ⟨v1, vs1, d1, ds1, p1, q1, rfl, rfl, rfl, h1, r1⟩ := trodAll_cons r0
 obtain ⟨rfl, rfl, rfl⟩ := trodAll_nil r1
 obtain rfl : args = #[v0, v1] := by cases args; simp_all
 obtain ⟨rfl, rfl⟩ := trodVars_none hV
 have k0 := h0
 have lt0 : ∀ x ∈ p0, x.block < W.heap.size := by obtain ⟨m, hm⟩ := k0; exact DataW.trod_lt m _ _ _ hm
 obtain ⟨cs0, rfl, _⟩ := okWide_struct Try.underlying50 (hval 0 50 v0 rfl rfl)
 obtain ⟨x0, hK0, wf0⟩ := OpensAt.any opensS50 h0
 obtain ⟨A0_1, c0_1, A0_4, c0_4, e0, l0_1, g0_1, l0_4, g0_4⟩ := k50_open hK0
 obtain rfl : cs0 = #[.int .i64 x0.f0, .slice A0_1 x0.f1.length c0_1, .int .i64 x0.f2.f0, .int .i64 x0.f2.f1, .slice A0_4 x0.f2.f2.length c0_4] := by cases cs0; simpa [Value.cells] using e0
 have k1 := h1
 have lt1 : ∀ x ∈ p1, x.block < W.heap.size := by obtain ⟨m, hm⟩ := k1; exact DataW.trod_lt m _ _ _ hm
 obtain ⟨cs1, rfl, _⟩ := okWide_struct Try.underlying50 (hval 1 50 v1 rfl rfl)
 obtain ⟨x1, hK1, wf1⟩ := OpensAt.any opensS50 h1
 obtain ⟨A1_1, c1_1, A1_4, c1_4, e1, l1_1, g1_1, l1_4, g1_4⟩ := k50_open hK1
 obtain rfl : cs1 = #[.int .i64 x1.f0, .slice A1_1 x1.f1.length c1_1, .int .i64 x1.f2.f0, .int .i64 x1.f2.f1, .slice A1_4 x1.f2.f2.length c1_4] := by cases cs1; simpa [Value.cells] using e1
 clear hA0 hval0 hsz0
 refine (P.laws_FnExactEitherScheme.walk Pure.FnExactEitherScheme x0 x1 _ _ _ _ _ _ _ _ W g0_1 l0_1 g0_4 l0_4 g1_1 l1_1 g1_4 l1_4 wf0 wf1).mono fun e W' ⟨he, bel⟩ => ?_
 subst he
 exact ⟨_, rfl, _, _, _, [], _, [], hW', trodAll_mk1 (shut_bool Try.underlying4 _), (trodAll_cons_mk (Below.trod laidOut (by kernel_rfl) (of_decide_eq_true (by kernel_rfl)) k0 bel lt0) (trodAll_cons_mk (Below.trod laidOut (by kernel_rfl) (of_decide_eq_true (by kernel_rfl)) k1 bel lt1) trodAll_mk0)), rfl, bel.frame _, fun h => by cases h⟩
theorem over : Rows.fnExactEitherSchemeRow.holds Try.pinned (OpenSpec.ofChange Rows.fnExactEitherSchemeSpec) :=
 OpenClaim.holds_of_wide 11 Try.f11 rfl rfl rfl rfl rfl rfl rfl ⟨rfl, rfl, rfl, rfl, rfl⟩ rfl rfl rfl rfl rfl (by kernel_rfl) Try.func11 (by kernel_rfl)
  (of_decide_eq_true (by kernel_rfl)) (by unfold Func.isWrapper; first | (rw [if_pos (by decide +kernel)]; kernel_rfl) | (rw [if_neg (by decide +kernel)]; exact ⟨rfl, rfl⟩))
  (fun os started H enc _ => lifted os started H enc)
theorem proved : Rows.FnExactEitherSchemeSaid := over
#print axioms proved
end Go.Proofs.Ytjpbemomocccaaa.fnExactEitherScheme
namespace Go.Proofs.Ytjpbemomocccaaa
theorem fnExactEitherScheme_holds : Rows.FnExactEitherSchemeSaid := fnExactEitherScheme.proved
end Go.Proofs.Ytjpbemomocccaaa
