/- For all arguments the program's Combination and the reference's answer alike, the arguments stay, and the result is memory of its own. This text: the theorem of the row, and part 4 of what it rests on. -/
import Derived.Test.YtjpbemomocccaaaCFnExactCombinationc
import Derived.Below
import Derived.Carry
import Derived.ChangeArms
import Derived.ChangeOld
import Derived.Deep.Slices
import Derived.OpenShut
import Derived.ProofKit
import Derived.ShutString
import Derived.SizedLaws
import Derived.Test.YtjpbemomocccaaaRows
import Derived.WalkKit
import Derived.WideShapes
namespace Go.Proofs.Ytjpbemomocccaaa.P
open Go.RowKit Go.Proofs.YtjpbemomocccaaaW.PrintWords Go.Proofs.YtjpbemomocccaaaW.PrintLast Go.Proofs.YtjpbemomocccaaaW.PrintMore
attribute [local go_sem] max2_int min2_int max_two min_two max_three min_three max_four min_four
set_option linter.unusedVariables false
set_option linter.unusedSimpArgs false

/-! ### laws_FnExactCombination: function 8 (the law's walk, by a program of this session) -/
set_option maxHeartbeats 8000000 in
set_option maxRecDepth 100000 in
theorem laws_FnExactCombination.way0 (k : Nat) (a0_0 : Int) (a0_1 : Int) (A0_2 : Option Addr) (c0_2 : Nat) (l0_2 : List (List Int)) (A1 : Option Addr) (c1 : Nat) (l1 : List Int)  (w : World) (hr0_2 : Kd.C (Kd.slice 2 (Kd.int .i64)) w A0_2 l0_2.length l0_2) (hc0_2 : l0_2.length ≤ c0_2) (hr1 : Kd.C (Kd.int .i64) w A1 l1.length l1) (hc1 : l1.length ≤ c1) (t2 : decide (1048576 < (l1.length : Int)) = true) (t3 : decide (1048576 < l1.length) = true) :
    Calls Try.prog 8 #[.agg #[.int .i64 a0_0, .int .i64 a0_1, .slice A0_2 l0_2.length c0_2], .slice A1 l1.length c1] w fun e w' => e = .returned (.bool true) ∧ Below w.heap.size w w' := by
  have hu24 := Try.underlying24
  have HR0_2 := Aside0.mk hr0_2
  have HC0_2 := Aside0.mk hc0_2
  clear hr0_2 hc0_2
  have HR1 := Aside0.mk hr1
  have HC1 := Aside0.mk hc1
  clear hr1 hc1
  have HB := Aside0.mk (Below.refl w.heap.size w)
  go_enter Try.func8, Try.ntmps8
  go_wp2
  go_ret
  exact ⟨rfl, by repeat (first | (with_reducible first | exact HB.out | apply below_alloc | apply pw_below_drewN | apply below_drew1) | exact HB.out)⟩
set_option maxHeartbeats 8000000 in
set_option maxRecDepth 100000 in
theorem laws_FnExactCombination.way1 (k : Nat) (a0_0 : Int) (a0_1 : Int) (A0_2 : Option Addr) (c0_2 : Nat) (l0_2 : List (List Int)) (A1 : Option Addr) (c1 : Nat) (l1 : List Int) (s4 : Int) (w : World) (hr0_2 : Kd.C (Kd.slice 2 (Kd.int .i64)) w A0_2 l0_2.length l0_2) (hc0_2 : l0_2.length ≤ c0_2) (hr1 : Kd.C (Kd.int .i64) w A1 l1.length l1) (hc1 : l1.length ≤ c1) (t2 : decide (1048576 < (l1.length : Int)) = false) (t3 : decide (1048576 < l1.length) = false) (A5 : laws_szMatrix.f k a0_0 a0_1 l0_2 1048576 = some s4) (t11 : decide (s4 < 0) = true) :
    Calls Try.prog 8 #[.agg #[.int .i64 a0_0, .int .i64 a0_1, .slice A0_2 l0_2.length c0_2], .slice A1 l1.length c1] w fun e w' => e = .returned (.bool true) ∧ Below w.heap.size w w' := by
  have hu24 := Try.underlying24
  have HR0_2 := Aside0.mk hr0_2
  have HC0_2 := Aside0.mk hc0_2
  clear hr0_2 hc0_2
  have HR1 := Aside0.mk hr1
  have HC1 := Aside0.mk hc1
  clear hr1 hc1
  have HB := Aside0.mk (Below.refl w.heap.size w)
  replace A5 := Aside0.mk A5
  go_enter Try.func8, Try.ntmps8
  go_wp2_with (first | ((with_reducible refine gate_callee (f := 12) rfl ?_); refine goesL_ (some 22) rfl rfl Try.func12 (by kernel_rfl) rfl #[.agg #[.int .i64 a0_0, .int .i64 a0_1, .slice A0_2 l0_2.length c0_2], .int .i64 1048576] rfl (by (try simp only [List.map_toArray, List.map_cons, List.map_nil]); first | done | rfl | (simp only [List.length_drop, List.length_take]; rfl)) ?_; (with_reducible refine (laws_szMatrix.calls k a0_0 a0_1 _ _ l0_2 1048576 s4 _ ?side1 ?side2 A5.out).mono ?_); (case side1 => exact Kd.C_below HR0_2.out (by repeat (first | (with_reducible first | exact HB.out | apply below_alloc | apply pw_below_drewN | apply below_drew1) | exact HB.out))); (case side2 => exact HC0_2.out); rintro e w1 ⟨rfl, hb⟩; refine ⟨_, rfl, ?_⟩; have n1_ := Aside0.mk (blk_below (g := w.heap.size) (o := .cells #[.int .i64 a0_0, .int .i64 a0_1, .slice A0_2 l0_2.length c0_2] 24 (0, 0)) (by repeat (first | exact blk_new_at (by simp) | (with_reducible refine blk_drewN ?_ _) | (with_reducible refine blk_drew ?_) | (with_reducible refine blk_alloc ?_ _))) hb); have n2_ := Aside0.mk (below_step (by repeat (first | (with_reducible first | exact HB.out | apply below_alloc | apply pw_below_drewN | apply below_drew1) | exact HB.out)) hb); have C6 : Aside0 (w.heap.size + 1 ≤ w1.heap.size) := ⟨by have h_ := hb.size; (try simp at h_); omega⟩; have CC := Aside0.mk C6.out; clear HB; have HX1 := n1_; clear n1_; have HB := n2_; clear n2_; (try clear hb); have hl7 : w.heap.size < w1.heap.size := blk_lt HX1.out; have hx8 : w1.cell? ⟨w.heap.size, 0, none⟩ = some (.int .i64 a0_0) := (blk_cell HX1.out 0).trans rfl; have hx9 : w1.cell? ⟨w.heap.size, 1, none⟩ = some (.int .i64 a0_1) := (blk_cell HX1.out 1).trans rfl; have hx10 : w1.cell? ⟨w.heap.size, 2, none⟩ = some (.slice A0_2 l0_2.length c0_2) := (blk_cell HX1.out 2).trans rfl))
  go_ret
  exact ⟨rfl, by repeat (first | (with_reducible first | exact HB.out | apply below_alloc | apply pw_below_drewN | apply below_drew1) | exact HB.out)⟩
set_option maxHeartbeats 8000000 in
set_option maxRecDepth 100000 in
theorem laws_FnExactCombination.way2 (k : Nat) (a0_0 : Int) (a0_1 : Int) (A0_2 : Option Addr) (c0_2 : Nat) (l0_2 : List (List Int)) (A1 : Option Addr) (c1 : Nat) (l1 : List Int) (s4 : Int) (r28 : List Int) (r29 : Int) (m107 : Int) (ys108 : List (List Int)) (m119 : Int) (ys120 : List Int) (m133 : Int) (ys134 : List Int) (w : World) (hr0_2 : Kd.C (Kd.slice 2 (Kd.int .i64)) w A0_2 l0_2.length l0_2) (hc0_2 : l0_2.length ≤ c0_2) (hr1 : Kd.C (Kd.int .i64) w A1 l1.length l1) (hc1 : l1.length ≤ c1) (t2 : decide (1048576 < (l1.length : Int)) = false) (t3 : decide (1048576 < l1.length) = false) (A5 : laws_szMatrix.f k a0_0 a0_1 l0_2 1048576 = some s4) (t11 : decide (s4 < 0) = false) (A12 : laws_toMatrix.f k a0_0 a0_1 l0_2 = some (a0_0, a0_1, l0_2)) (A20 : laws_toInt64S.f k l1 = some l1) (A30 : spec_Combination.f k a0_0 a0_1 l0_2 l1 = some (r28, r29)) (A38 : laws_toMatrix.f k a0_0 a0_1 l0_2 = some (a0_0, a0_1, l0_2)) (A47 : laws_toInt64S.f k l1 = some l1) (A59 : impl_Combination.f k a0_0 a0_1 l0_2 l1 = some (r28, r29)) (A71 : laws_eqInt64S.f k r28 r28 = some true) (A72 : laws_toMatrix.f k a0_0 a0_1 l0_2 = some (a0_0, a0_1, l0_2)) (A84 : laws_eqMatrix.f k a0_0 a0_1 l0_2 a0_0 a0_1 l0_2 = some true) (A94 : laws_toInt64S.f k l1 = some l1) (A106 : laws_eqInt64S.f k l1 l1 = some true) (A109 : laws_markMatrix.f k a0_0 a0_1 l0_2 1 = some (m107, ys108)) (A121 : laws_markInt64S.f k l1 m107 = some (m119, ys120)) (t131 : decide (m119 < 0) = false) (A132 : laws_eqInt64S.f k r28 r28 = some true) (A135 : laws_markInt64S.f k r28 1 = some (m133, ys134)) (A145 : laws_heldInt64S.f k ys134 1 = some m133) (t146 : decide (m133 < 0) = false) (A147 : laws_toMatrix.f k a0_0 a0_1 l0_2 = some (a0_0, a0_1, l0_2)) (A159 : laws_toInt64S.f k l1 = some l1) (A171 : impl_Combination.f k a0_0 a0_1 l0_2 l1 = some (r28, r29)) (A183 : laws_eqInt64S.f k r28 r28 = some true) (A184 : laws_heldInt64S.f k ys134 1 = some m133) (t185 : decide (m133 < 0) = false) :
    Calls Try.prog 8 #[.agg #[.int .i64 a0_0, .int .i64 a0_1, .slice A0_2 l0_2.length c0_2], .slice A1 l1.length c1] w fun e w' => e = .returned (.bool true) ∧ Below w.heap.size w w' := by
  have hu24 := Try.underlying24
  have hu26 := Try.underlying26
  have HR0_2 := Aside0.mk hr0_2
  have HC0_2 := Aside0.mk hc0_2
  clear hr0_2 hc0_2
  have HR1 := Aside0.mk hr1
  have HC1 := Aside0.mk hc1
  clear hr1 hc1
  have HB := Aside0.mk (Below.refl w.heap.size w)
  replace A5 := Aside0.mk A5
  replace A12 := Aside0.mk A12
  replace A20 := Aside0.mk A20
  replace A30 := Aside0.mk A30
  replace A38 := Aside0.mk A38
  replace A47 := Aside0.mk A47
  replace A59 := Aside0.mk A59
  replace A71 := Aside0.mk A71
  replace A72 := Aside0.mk A72
  replace A84 := Aside0.mk A84
  replace A94 := Aside0.mk A94
  replace A106 := Aside0.mk A106
  replace A109 := Aside0.mk A109
  replace A121 := Aside0.mk A121
  replace A132 := Aside0.mk A132
  replace A135 := Aside0.mk A135
  replace A145 := Aside0.mk A145
  replace A147 := Aside0.mk A147
  replace A159 := Aside0.mk A159
  replace A171 := Aside0.mk A171
  replace A183 := Aside0.mk A183
  replace A184 := Aside0.mk A184
  go_enter Try.func8, Try.ntmps8
  go_wp2_with (first | ((with_reducible refine gate_callee (f := 12) rfl ?_); refine goesL_ (some 22) rfl rfl Try.func12 (by kernel_rfl) rfl #[.agg #[.int .i64 a0_0, .int .i64 a0_1, .slice A0_2 l0_2.length c0_2], .int .i64 1048576] rfl (by (try simp only [List.map_toArray, List.map_cons, List.map_nil]); first | done | rfl | (simp only [List.length_drop, List.length_take]; rfl)) ?_; (with_reducible refine (laws_szMatrix.calls k a0_0 a0_1 _ _ l0_2 1048576 s4 _ ?side1 ?side2 A5.out).mono ?_); (case side1 => exact Kd.C_below HR0_2.out (by repeat (first | (with_reducible first | exact HB.out | apply below_alloc | apply pw_below_drewN | apply below_drew1) | exact HB.out))); (case side2 => exact HC0_2.out); rintro e w1 ⟨rfl, hb⟩; refine ⟨_, rfl, ?_⟩; have n1_ := Aside0.mk (blk_below (g := w.heap.size) (o := .cells #[.int .i64 a0_0, .int .i64 a0_1, .slice A0_2 l0_2.length c0_2] 24 (0, 0)) (by repeat (first | exact blk_new_at (by simp) | (with_reducible refine blk_drewN ?_ _) | (with_reducible refine blk_drew ?_) | (with_reducible refine blk_alloc ?_ _))) hb); have n2_ := Aside0.mk (below_step (by repeat (first | (with_reducible first | exact HB.out | apply below_alloc | apply pw_below_drewN | apply below_drew1) | exact HB.out)) hb); have C6 : Aside0 (w.heap.size + 1 ≤ w1.heap.size) := ⟨by have h_ := hb.size; (try simp at h_); omega⟩; have CC := Aside0.mk C6.out; clear HB; have HX1 := n1_; clear n1_; have HB := n2_; clear n2_; (try clear hb); have hl7 : w.heap.size < w1.heap.size := blk_lt HX1.out; have hx8 : w1.cell? ⟨w.heap.size, 0, none⟩ = some (.int .i64 a0_0) := (blk_cell HX1.out 0).trans rfl; have hx9 : w1.cell? ⟨w.heap.size, 1, none⟩ = some (.int .i64 a0_1) := (blk_cell HX1.out 1).trans rfl; have hx10 : w1.cell? ⟨w.heap.size, 2, none⟩ = some (.slice A0_2 l0_2.length c0_2) := (blk_cell HX1.out 2).trans rfl) | ((with_reducible refine gate_callee (f := 14) rfl ?_); refine goesL_ (some 27) rfl rfl Try.func14 (by kernel_rfl) rfl #[.agg #[.int .i64 a0_0, .int .i64 a0_1, .slice A0_2 l0_2.length c0_2]] rfl (by (try simp only [List.map_toArray, List.map_cons, List.map_nil]); first | done | rfl | (simp only [List.length_drop, List.length_take]; rfl)) ?_; (with_reducible refine (laws_toMatrix.calls k a0_0 a0_1 _ _ l0_2 a0_0 a0_1 l0_2 _ ?side1 ?side2 A12.out).mono ?_); (case side1 => exact Kd.C_below HR0_2.out (by repeat (first | (with_reducible first | exact HB.out | apply below_alloc | apply pw_below_drewN | apply below_drew1) | exact HB.out))); (case side2 => exact HC0_2.out); rintro e w2 ⟨v100_, rfl, ho0_, hb⟩; refine ⟨_, rfl, ?_⟩; have n1_ := Aside0.mk (blk_below (g := w.heap.size) (o := .cells #[.int .i64 a0_0, .int .i64 a0_1, .slice A0_2 l0_2.length c0_2] 24 (0, 0)) (by (with_reducible repeat (first | refine blk_drewN ?_ _ | refine blk_drew ?_ | refine blk_alloc ?_ _)); exact HX1.out) hb); have n2_ := Aside0.mk (below_step (by repeat (first | (with_reducible first | exact HB.out | apply below_alloc | apply pw_below_drewN | apply below_drew1) | exact HB.out)) hb); have C13 : Aside0 (w1.heap.size ≤ w2.heap.size) := ⟨by have h_ := hb.size; (try simp at h_); omega⟩; have CCn_ := Aside0.mk (And.intro CC.out C13.out); clear CC; have CC := CCn_; clear CCn_; clear HX1; clear HB; clear hl7; clear hx8; clear hx9; clear hx10; have HX1 := n1_; clear n1_; have HB := n2_; clear n2_; have HO14 := Aside0.mk (Kd.S_lower (base' := w.heap.size) (Kd.S_mono (Kd.S_bound ho0_) (ok' := fun k_ => w1.heap.size ≤ k_ ∧ k_ < w2.heap.size) (fun k_ hk_ => ⟨by have h_ := hk_.2.1; (try simp at h_); omega, hk_.2.2.1⟩)) (by have := CC.out; first | omega | (simp; done) | (simp; omega))); obtain ⟨Az15, cz15, ez15⟩ := Kd.S_slice HO14.out; subst ez15; (try clear hb); (try clear ho0_); have hl16 : w.heap.size < w2.heap.size := blk_lt HX1.out; have hx17 : w2.cell? ⟨w.heap.size, 0, none⟩ = some (.int .i64 a0_0) := (blk_cell HX1.out 0).trans rfl; have hx18 : w2.cell? ⟨w.heap.size, 1, none⟩ = some (.int .i64 a0_1) := (blk_cell HX1.out 1).trans rfl; have hx19 : w2.cell? ⟨w.heap.size, 2, none⟩ = some (.slice A0_2 l0_2.length c0_2) := (blk_cell HX1.out 2).trans rfl) | ((with_reducible refine gate_callee (f := 26) rfl ?_); refine goesL_ (some 29) rfl rfl Try.func26 (by kernel_rfl) rfl #[.slice A1 l1.length c1] rfl (by (try simp only [List.map_toArray, List.map_cons, List.map_nil]); first | done | rfl | (simp only [List.length_drop, List.length_take]; rfl)) ?_; (with_reducible refine (laws_toInt64S.calls k _ _ l1 l1 _ ?side1 ?side2 A20.out).mono ?_); (case side1 => exact Kd.C_below HR1.out (by repeat (first | (with_reducible first | exact HB.out | apply below_alloc | apply pw_below_drewN | apply below_drew1) | exact HB.out))); (case side2 => exact HC1.out); rintro e w3 ⟨v100_, rfl, ho0_, hb⟩; refine ⟨_, rfl, ?_⟩; have n1_ := Aside0.mk (Kd.S_below (by (with_reducible repeat (first | apply Kd.S_alloc | apply Kd.S_drewN | apply Kd.S_drew)); exact HO14.out) hb); have n2_ := Aside0.mk (blk_below (g := w.heap.size) (o := .cells #[.int .i64 a0_0, .int .i64 a0_1, .slice A0_2 l0_2.length c0_2] 24 (0, 0)) (by (with_reducible repeat (first | refine blk_drewN ?_ _ | refine blk_drew ?_ | refine blk_alloc ?_ _)); exact HX1.out) hb); have n3_ := Aside0.mk (below_step (by repeat (first | (with_reducible first | exact HB.out | apply below_alloc | apply pw_below_drewN | apply below_drew1) | exact HB.out)) hb); have C21 : Aside0 (w2.heap.size ≤ w3.heap.size) := ⟨by have h_ := hb.size; (try simp at h_); omega⟩; have CCn_ := Aside0.mk (And.intro CC.out C21.out); clear CC; have CC := CCn_; clear CCn_; clear HO14; clear HX1; clear HB; clear hl16; clear hx17; clear hx18; clear hx19; have HO14 := n1_; clear n1_; have HX1 := n2_; clear n2_; have HB := n3_; clear n3_; have HO22 := Aside0.mk (Kd.R_lower (base' := w.heap.size) (Kd.R_mono (Kd.R_bound ho0_) (ok' := fun k_ => w2.heap.size ≤ k_ ∧ k_ < w3.heap.size) (fun k_ hk_ => ⟨by have h_ := hk_.2.1; (try simp at h_); omega, hk_.2.2.1⟩)) (by have := CC.out; first | omega | (simp; done) | (simp; omega))); obtain ⟨Az23, cz23, ez23⟩ := Kd.R_slice HO22.out; subst ez23; (try clear hb); (try clear ho0_); have hl24 : w.heap.size < w3.heap.size := blk_lt HX1.out; have hx25 : w3.cell? ⟨w.heap.size, 0, none⟩ = some (.int .i64 a0_0) := (blk_cell HX1.out 0).trans rfl; have hx26 : w3.cell? ⟨w.heap.size, 1, none⟩ = some (.int .i64 a0_1) := (blk_cell HX1.out 1).trans rfl; have hx27 : w3.cell? ⟨w.heap.size, 2, none⟩ = some (.slice A0_2 l0_2.length c0_2) := (blk_cell HX1.out 2).trans rfl) | ((with_reducible refine gate_callee (f := 29) rfl ?_); refine goesL_ (some 30) rfl rfl Try.func29 (by kernel_rfl) rfl #[.agg #[.int .i64 a0_0, .int .i64 a0_1, .slice Az15 l0_2.length cz15], .slice Az23 l1.length cz23] rfl (by (try simp only [List.map_toArray, List.map_cons, List.map_nil]); first | done | rfl | (simp only [List.length_drop, List.length_take]; rfl)) ?_; (with_reducible refine (spec_Combination.calls k a0_0 a0_1 _ _ l0_2 _ _ l1 r28 r29 _ ?side1 ?side2 ?side3 ?side4 A30.out).mono ?_); (case side1 => exact (Kd.S_reads' (n := l0_2.length) (A := Az15) (c := cz15) (by (with_reducible repeat (first | apply Kd.S_alloc | apply Kd.S_drewN | apply Kd.S_drew)); exact HO14.out)).2.2); (case side2 => exact (Kd.S_reads' (n := l0_2.length) (A := Az15) (c := cz15) HO14.out).2.1); (case side3 => exact (Kd.R_reads' (n := l1.length) (A := Az23) (c := cz23) (by (with_reducible repeat (first | apply Kd.R_alloc | apply Kd.R_drewN | apply Kd.R_drew)); exact HO22.out)).2.2); (case side4 => exact (Kd.R_reads' (n := l1.length) (A := Az23) (c := cz23) HO22.out).2.1); rintro e w4 ⟨v100_, rfl, ho0_, hb⟩; refine ⟨_, rfl, ?_⟩; have n1_ := Aside0.mk (Kd.S_below (by (with_reducible repeat (first | apply Kd.S_alloc | apply Kd.S_drewN | apply Kd.S_drew)); exact HO14.out) hb); have n2_ := Aside0.mk (Kd.R_below (by (with_reducible repeat (first | apply Kd.R_alloc | apply Kd.R_drewN | apply Kd.R_drew)); exact HO22.out) hb); have n3_ := Aside0.mk (blk_below (g := w.heap.size) (o := .cells #[.int .i64 a0_0, .int .i64 a0_1, .slice A0_2 l0_2.length c0_2] 24 (0, 0)) (by (with_reducible repeat (first | refine blk_drewN ?_ _ | refine blk_drew ?_ | refine blk_alloc ?_ _)); exact HX1.out) hb); have n4_ := Aside0.mk (below_step (by repeat (first | (with_reducible first | exact HB.out | apply below_alloc | apply pw_below_drewN | apply below_drew1) | exact HB.out)) hb); have C31 : Aside0 (w3.heap.size ≤ w4.heap.size) := ⟨by have h_ := hb.size; (try simp at h_); omega⟩; have CCn_ := Aside0.mk (And.intro CC.out C31.out); clear CC; have CC := CCn_; clear CCn_; clear HO14; clear HO22; clear HX1; clear HB; clear hl24; clear hx25; clear hx26; clear hx27; have HO14 := n1_; clear n1_; have HO22 := n2_; clear n2_; have HX1 := n3_; clear n3_; have HB := n4_; clear n4_; have HO32 := Aside0.mk (Kd.R_lower (base' := w.heap.size) (Kd.R_mono (Kd.R_bound ho0_) (ok' := fun k_ => w3.heap.size ≤ k_ ∧ k_ < w4.heap.size) (fun k_ hk_ => ⟨by have h_ := hk_.2.1; (try simp at h_); omega, hk_.2.2.1⟩)) (by have := CC.out; first | omega | (simp; done) | (simp; omega))); obtain ⟨Az33, cz33, ez33⟩ := Kd.R_slice HO32.out; subst ez33; (try clear hb); (try clear ho0_); have hl34 : w.heap.size < w4.heap.size := blk_lt HX1.out; have hx35 : w4.cell? ⟨w.heap.size, 0, none⟩ = some (.int .i64 a0_0) := (blk_cell HX1.out 0).trans rfl; have hx36 : w4.cell? ⟨w.heap.size, 1, none⟩ = some (.int .i64 a0_1) := (blk_cell HX1.out 1).trans rfl; have hx37 : w4.cell? ⟨w.heap.size, 2, none⟩ = some (.slice A0_2 l0_2.length c0_2) := (blk_cell HX1.out 2).trans rfl) | ((with_reducible refine gate_callee (f := 14) rfl ?_); refine goesL_ (some 34) rfl rfl Try.func14 (by kernel_rfl) rfl #[.agg #[.int .i64 a0_0, .int .i64 a0_1, .slice A0_2 l0_2.length c0_2]] rfl (by (try simp only [List.map_toArray, List.map_cons, List.map_nil]); first | done | rfl | (simp only [List.length_drop, List.length_take]; rfl)) ?_; (with_reducible refine (laws_toMatrix.calls k a0_0 a0_1 _ _ l0_2 a0_0 a0_1 l0_2 _ ?side1 ?side2 A38.out).mono ?_); (case side1 => exact Kd.C_below HR0_2.out (by repeat (first | (with_reducible first | exact HB.out | apply below_alloc | apply pw_below_drewN | apply below_drew1) | exact HB.out))); (case side2 => exact HC0_2.out); rintro e w5 ⟨v100_, rfl, ho0_, hb⟩; refine ⟨_, rfl, ?_⟩; have n1_ := Aside0.mk (Kd.R_below (by (with_reducible repeat (first | apply Kd.R_alloc | apply Kd.R_drewN | apply Kd.R_drew)); exact HO32.out) hb); have n2_ := Aside0.mk (blk_below (g := w.heap.size) (o := .cells #[.int .i64 a0_0, .int .i64 a0_1, .slice A0_2 l0_2.length c0_2] 24 (0, 0)) (by (with_reducible repeat (first | refine blk_drewN ?_ _ | refine blk_drew ?_ | refine blk_alloc ?_ _)); exact HX1.out) hb); have n3_ := Aside0.mk (below_step (by repeat (first | (with_reducible first | exact HB.out | apply below_alloc | apply pw_below_drewN | apply below_drew1) | exact HB.out)) hb); have C39 : Aside0 (w4.heap.size ≤ w5.heap.size) := ⟨by have h_ := hb.size; (try simp at h_); omega⟩; have CCn_ := Aside0.mk (And.intro CC.out C39.out); clear CC; have CC := CCn_; clear CCn_; clear HO32; clear HX1; clear HB; clear hl34; clear hx35; clear hx36; clear hx37; have HO32 := n1_; clear n1_; have HX1 := n2_; clear n2_; have HB := n3_; clear n3_; have HO40 := Aside0.mk (Kd.S_lower (base' := w.heap.size) (Kd.S_mono (Kd.S_bound ho0_) (ok' := fun k_ => w4.heap.size ≤ k_ ∧ k_ < w5.heap.size) (fun k_ hk_ => ⟨by have h_ := hk_.2.1; (try simp at h_); omega, hk_.2.2.1⟩)) (by have := CC.out; first | omega | (simp; done) | (simp; omega))); obtain ⟨Az41, cz41, ez41⟩ := Kd.S_slice HO40.out; subst ez41; (try clear hb); (try clear ho0_); have hl42 : w.heap.size < w5.heap.size := blk_lt HX1.out; have hx43 : w5.cell? ⟨w.heap.size, 0, none⟩ = some (.int .i64 a0_0) := (blk_cell HX1.out 0).trans rfl; have hx44 : w5.cell? ⟨w.heap.size, 1, none⟩ = some (.int .i64 a0_1) := (blk_cell HX1.out 1).trans rfl; have hx45 : w5.cell? ⟨w.heap.size, 2, none⟩ = some (.slice A0_2 l0_2.length c0_2) := (blk_cell HX1.out 2).trans rfl) | ((with_reducible refine gate_callee (f := 26) rfl ?_); refine goesL_ (some 36) rfl rfl Try.func26 (by kernel_rfl) rfl #[.slice A1 l1.length c1] rfl (by (try simp only [List.map_toArray, List.map_cons, List.map_nil]); first | done | rfl | (simp only [List.length_drop, List.length_take]; rfl)) ?_; (with_reducible refine (laws_toInt64S.calls k _ _ l1 l1 _ ?side1 ?side2 A47.out).mono ?_); (case side1 => exact Kd.C_below HR1.out (by repeat (first | (with_reducible first | exact HB.out | apply below_alloc | apply pw_below_drewN | apply below_drew1) | exact HB.out))); (case side2 => exact HC1.out); rintro e w6 ⟨v100_, rfl, ho0_, hb⟩; refine ⟨_, rfl, ?_⟩; have n1_ := Aside0.mk (Kd.R_below (by (with_reducible repeat (first | apply Kd.R_alloc | apply Kd.R_drewN | apply Kd.R_drew)); exact HO32.out) hb); have n2_ := Aside0.mk (Kd.S_below (by (with_reducible repeat (first | apply Kd.S_alloc | apply Kd.S_drewN | apply Kd.S_drew)); exact HO40.out) hb); have n3_ := Aside0.mk (blk_below (g := w.heap.size) (o := .cells #[.int .i64 a0_0, .int .i64 a0_1, .slice A0_2 l0_2.length c0_2] 24 (0, 0)) (by (with_reducible repeat (first | refine blk_drewN ?_ _ | refine blk_drew ?_ | refine blk_alloc ?_ _)); exact HX1.out) hb); have n4_ := Aside0.mk (blk_below (g := w5.heap.size) (o := .cells #[.int .i64 a0_0, .int .i64 a0_1, .slice Az41 l0_2.length cz41] 26 (0, 0)) (by repeat (first | exact blk_new_at (by simp) | (with_reducible refine blk_drewN ?_ _) | (with_reducible refine blk_drew ?_) | (with_reducible refine blk_alloc ?_ _))) hb); have n5_ := Aside0.mk (below_step (by repeat (first | (with_reducible first | exact HB.out | apply below_alloc | apply pw_below_drewN | apply below_drew1) | exact HB.out)) hb); have C48 : Aside0 (w5.heap.size + 1 ≤ w6.heap.size) := ⟨by have h_ := hb.size; (try simp at h_); omega⟩; have CCn_ := Aside0.mk (And.intro CC.out C48.out); clear CC; have CC := CCn_; clear CCn_; clear HO32; clear HO40; clear HX1; clear HB; clear hl42; clear hx43; clear hx44; clear hx45; have HO32 := n1_; clear n1_; have HO40 := n2_; clear n2_; have HX1 := n3_; clear n3_; have HX46 := n4_; clear n4_; have HB := n5_; clear n5_; have HO49 := Aside0.mk (Kd.R_lower (base' := w.heap.size) (Kd.R_mono (Kd.R_bound ho0_) (ok' := fun k_ => w5.heap.size + 1 ≤ k_ ∧ k_ < w6.heap.size) (fun k_ hk_ => ⟨by have h_ := hk_.2.1; (try simp at h_); omega, hk_.2.2.1⟩)) (by have := CC.out; first | omega | (simp; done) | (simp; omega))); obtain ⟨Az50, cz50, ez50⟩ := Kd.R_slice HO49.out; subst ez50; (try clear hb); (try clear ho0_); have hl51 : w.heap.size < w6.heap.size := blk_lt HX1.out; have hx52 : w6.cell? ⟨w.heap.size, 0, none⟩ = some (.int .i64 a0_0) := (blk_cell HX1.out 0).trans rfl; have hx53 : w6.cell? ⟨w.heap.size, 1, none⟩ = some (.int .i64 a0_1) := (blk_cell HX1.out 1).trans rfl; have hx54 : w6.cell? ⟨w.heap.size, 2, none⟩ = some (.slice A0_2 l0_2.length c0_2) := (blk_cell HX1.out 2).trans rfl; have hl55 : w5.heap.size < w6.heap.size := blk_lt HX46.out; have hx56 : w6.cell? ⟨w5.heap.size, 0, none⟩ = some (.int .i64 a0_0) := (blk_cell HX46.out 0).trans rfl; have hx57 : w6.cell? ⟨w5.heap.size, 1, none⟩ = some (.int .i64 a0_1) := (blk_cell HX46.out 1).trans rfl; have hx58 : w6.cell? ⟨w5.heap.size, 2, none⟩ = some (.slice Az41 l0_2.length cz41) := (blk_cell HX46.out 2).trans rfl) | ((with_reducible refine gate_callee (f := 30) rfl ?_); refine goesL_ (some 40) rfl rfl Try.func30 (by kernel_rfl) rfl #[.agg #[.int .i64 a0_0, .int .i64 a0_1, .slice Az41 l0_2.length cz41], .slice Az50 l1.length cz50] rfl (by (try simp only [List.map_toArray, List.map_cons, List.map_nil]); first | done | rfl | (simp only [List.length_drop, List.length_take]; rfl)) ?_; (with_reducible refine (impl_Combination.calls k a0_0 a0_1 _ _ l0_2 _ _ l1 r28 r29 _ ?side1 ?side2 ?side3 ?side4 A59.out).mono ?_); (case side1 => exact (Kd.S_reads' (n := l0_2.length) (A := Az41) (c := cz41) (by (with_reducible repeat (first | apply Kd.S_alloc | apply Kd.S_drewN | apply Kd.S_drew)); exact HO40.out)).2.2); (case side2 => exact (Kd.S_reads' (n := l0_2.length) (A := Az41) (c := cz41) HO40.out).2.1); (case side3 => exact (Kd.R_reads' (n := l1.length) (A := Az50) (c := cz50) (by (with_reducible repeat (first | apply Kd.R_alloc | apply Kd.R_drewN | apply Kd.R_drew)); exact HO49.out)).2.2); (case side4 => exact (Kd.R_reads' (n := l1.length) (A := Az50) (c := cz50) HO49.out).2.1); rintro e w7 ⟨v100_, rfl, ho0_, hb⟩; refine ⟨_, rfl, ?_⟩; have n1_ := Aside0.mk (Kd.R_below (by (with_reducible repeat (first | apply Kd.R_alloc | apply Kd.R_drewN | apply Kd.R_drew)); exact HO32.out) hb); have n2_ := Aside0.mk (Kd.S_below (by (with_reducible repeat (first | apply Kd.S_alloc | apply Kd.S_drewN | apply Kd.S_drew)); exact HO40.out) hb); have n3_ := Aside0.mk (Kd.R_below (by (with_reducible repeat (first | apply Kd.R_alloc | apply Kd.R_drewN | apply Kd.R_drew)); exact HO49.out) hb); have n4_ := Aside0.mk (blk_below (g := w.heap.size) (o := .cells #[.int .i64 a0_0, .int .i64 a0_1, .slice A0_2 l0_2.length c0_2] 24 (0, 0)) (by (with_reducible repeat (first | refine blk_drewN ?_ _ | refine blk_drew ?_ | refine blk_alloc ?_ _)); exact HX1.out) hb); have n5_ := Aside0.mk (blk_below (g := w5.heap.size) (o := .cells #[.int .i64 a0_0, .int .i64 a0_1, .slice Az41 l0_2.length cz41] 26 (0, 0)) (by (with_reducible repeat (first | refine blk_drewN ?_ _ | refine blk_drew ?_ | refine blk_alloc ?_ _)); exact HX46.out) hb); have n6_ := Aside0.mk (below_step (by repeat (first | (with_reducible first | exact HB.out | apply below_alloc | apply pw_below_drewN | apply below_drew1) | exact HB.out)) hb); have C60 : Aside0 (w6.heap.size ≤ w7.heap.size) := ⟨by have h_ := hb.size; (try simp at h_); omega⟩; have CCn_ := Aside0.mk (And.intro CC.out C60.out); clear CC; have CC := CCn_; clear CCn_; clear HO32; clear HO40; clear HO49; clear HX1; clear HX46; clear HB; clear hl51; clear hx52; clear hx53; clear hx54; clear hl55; clear hx56; clear hx57; clear hx58; have HO32 := n1_; clear n1_; have HO40 := n2_; clear n2_; have HO49 := n3_; clear n3_; have HX1 := n4_; clear n4_; have HX46 := n5_; clear n5_; have HB := n6_; clear n6_; have HO61 := Aside0.mk (Kd.R_lower (base' := w.heap.size) (Kd.R_mono (Kd.R_bound ho0_) (ok' := fun k_ => w6.heap.size ≤ k_ ∧ k_ < w7.heap.size) (fun k_ hk_ => ⟨by have h_ := hk_.2.1; (try simp at h_); omega, hk_.2.2.1⟩)) (by have := CC.out; first | omega | (simp; done) | (simp; omega))); obtain ⟨Az62, cz62, ez62⟩ := Kd.R_slice HO61.out; subst ez62; (try clear hb); (try clear ho0_); have hl63 : w.heap.size < w7.heap.size := blk_lt HX1.out; have hx64 : w7.cell? ⟨w.heap.size, 0, none⟩ = some (.int .i64 a0_0) := (blk_cell HX1.out 0).trans rfl; have hx65 : w7.cell? ⟨w.heap.size, 1, none⟩ = some (.int .i64 a0_1) := (blk_cell HX1.out 1).trans rfl; have hx66 : w7.cell? ⟨w.heap.size, 2, none⟩ = some (.slice A0_2 l0_2.length c0_2) := (blk_cell HX1.out 2).trans rfl; have hl67 : w5.heap.size < w7.heap.size := blk_lt HX46.out; have hx68 : w7.cell? ⟨w5.heap.size, 0, none⟩ = some (.int .i64 a0_0) := (blk_cell HX46.out 0).trans rfl; have hx69 : w7.cell? ⟨w5.heap.size, 1, none⟩ = some (.int .i64 a0_1) := (blk_cell HX46.out 1).trans rfl; have hx70 : w7.cell? ⟨w5.heap.size, 2, none⟩ = some (.slice Az41 l0_2.length cz41) := (blk_cell HX46.out 2).trans rfl) | ((with_reducible refine gate_callee (f := 28) rfl ?_); refine goesL_ (some 45) rfl rfl Try.func28 (by kernel_rfl) rfl #[.slice Az62 r28.length cz62, .slice Az33 r28.length cz33] rfl (by (try simp only [List.map_toArray, List.map_cons, List.map_nil]); first | done | rfl | (simp only [List.length_drop, List.length_take]; rfl)) ?_; (with_reducible refine (laws_eqInt64S.calls k _ _ r28 _ _ r28 true _ ?side1 ?side2 ?side3 ?side4 A71.out).mono ?_); (case side1 => exact (Kd.R_reads' (n := r28.length) (A := Az62) (c := cz62) (by (with_reducible repeat (first | apply Kd.R_alloc | apply Kd.R_drewN | apply Kd.R_drew)); exact HO61.out)).2.2); (case side2 => exact (Kd.R_reads' (n := r28.length) (A := Az62) (c := cz62) HO61.out).2.1); (case side3 => exact (Kd.R_reads' (n := r28.length) (A := Az33) (c := cz33) (by (with_reducible repeat (first | apply Kd.R_alloc | apply Kd.R_drewN | apply Kd.R_drew)); exact HO32.out)).2.2); (case side4 => exact (Kd.R_reads' (n := r28.length) (A := Az33) (c := cz33) HO32.out).2.1); rintro e w' ⟨rfl, ⟨nd, rfl⟩⟩; refine ⟨_, rfl, ?_⟩))
  go_region_held3 (fun w' => w'.cell? ⟨w5.heap.size, 0, none⟩ = some (.int .i64 a0_0) ∧ w'.cell? ⟨w5.heap.size, 1, none⟩ = some (.int .i64 a0_1) ∧ w'.cell? ⟨w5.heap.size, 2, none⟩ = some (.slice Az41 l0_2.length cz41) ∧ w'.cell? ⟨w.heap.size, 0, none⟩ = some (.int .i64 a0_0) ∧ w'.cell? ⟨w.heap.size, 1, none⟩ = some (.int .i64 a0_1) ∧ w'.cell? ⟨w.heap.size, 2, none⟩ = some (.slice A0_2 l0_2.length c0_2)) (first | ((repeat' apply And.intro) <;> assumption) | go_keep) (first | (go_at_call 14; (with_reducible refine (laws_toMatrix.calls k a0_0 a0_1 _ _ l0_2 a0_0 a0_1 l0_2 _ ?side1 ?side2 A72.out).mono ?_); (case side1 => exact Kd.C_below HR0_2.out (by repeat (first | (with_reducible first | exact HB.out | apply below_alloc | apply pw_below_drewN | apply below_drew1) | exact HB.out))); (case side2 => exact HC0_2.out); rintro e w8 ⟨v100_, rfl, ho0_, hb⟩; have n1_ := Aside0.mk (Kd.R_below (by (with_reducible repeat (first | apply Kd.R_alloc | apply Kd.R_drewN | apply Kd.R_drew)); exact HO32.out) hb); have n2_ := Aside0.mk (Kd.S_below (by (with_reducible repeat (first | apply Kd.S_alloc | apply Kd.S_drewN | apply Kd.S_drew)); exact HO40.out) hb); have n3_ := Aside0.mk (Kd.R_below (by (with_reducible repeat (first | apply Kd.R_alloc | apply Kd.R_drewN | apply Kd.R_drew)); exact HO49.out) hb); have n4_ := Aside0.mk (Kd.R_below (by (with_reducible repeat (first | apply Kd.R_alloc | apply Kd.R_drewN | apply Kd.R_drew)); exact HO61.out) hb); have n5_ := Aside0.mk (blk_below (g := w.heap.size) (o := .cells #[.int .i64 a0_0, .int .i64 a0_1, .slice A0_2 l0_2.length c0_2] 24 (0, 0)) (by (with_reducible repeat (first | refine blk_drewN ?_ _ | refine blk_drew ?_ | refine blk_alloc ?_ _)); exact HX1.out) hb); have n6_ := Aside0.mk (blk_below (g := w5.heap.size) (o := .cells #[.int .i64 a0_0, .int .i64 a0_1, .slice Az41 l0_2.length cz41] 26 (0, 0)) (by (with_reducible repeat (first | refine blk_drewN ?_ _ | refine blk_drew ?_ | refine blk_alloc ?_ _)); exact HX46.out) hb); have n7_ := Aside0.mk (below_step (by repeat (first | (with_reducible first | exact HB.out | apply below_alloc | apply pw_below_drewN | apply below_drew1) | exact HB.out)) hb); have C73 : Aside0 (w7.heap.size ≤ w8.heap.size) := ⟨by have h_ := hb.size; (try simp at h_); omega⟩; have CCn_ := Aside0.mk (And.intro CC.out C73.out); clear CC; have CC := CCn_; clear CCn_; clear HO32; clear HO40; clear HO49; clear HO61; clear HX1; clear HX46; clear HB; clear hl63; clear hx64; clear hx65; clear hx66; clear hl67; clear hx68; clear hx69; clear hx70; have HO32 := n1_; clear n1_; have HO40 := n2_; clear n2_; have HO49 := n3_; clear n3_; have HO61 := n4_; clear n4_; have HX1 := n5_; clear n5_; have HX46 := n6_; clear n6_; have HB := n7_; clear n7_; have HO74 := Aside0.mk (Kd.S_lower (base' := w.heap.size) (Kd.S_mono (Kd.S_bound ho0_) (ok' := fun k_ => w7.heap.size ≤ k_ ∧ k_ < w8.heap.size) (fun k_ hk_ => ⟨by have h_ := hk_.2.1; (try simp at h_); omega, hk_.2.2.1⟩)) (by have := CC.out; first | omega | (simp; done) | (simp; omega))); obtain ⟨Az75, cz75, ez75⟩ := Kd.S_slice HO74.out; subst ez75; (try clear hb); (try clear ho0_); have hl76 : w.heap.size < w8.heap.size := blk_lt HX1.out; have hx77 : w8.cell? ⟨w.heap.size, 0, none⟩ = some (.int .i64 a0_0) := (blk_cell HX1.out 0).trans rfl; have hx78 : w8.cell? ⟨w.heap.size, 1, none⟩ = some (.int .i64 a0_1) := (blk_cell HX1.out 1).trans rfl; have hx79 : w8.cell? ⟨w.heap.size, 2, none⟩ = some (.slice A0_2 l0_2.length c0_2) := (blk_cell HX1.out 2).trans rfl; have hl80 : w5.heap.size < w8.heap.size := blk_lt HX46.out; have hx81 : w8.cell? ⟨w5.heap.size, 0, none⟩ = some (.int .i64 a0_0) := (blk_cell HX46.out 0).trans rfl; have hx82 : w8.cell? ⟨w5.heap.size, 1, none⟩ = some (.int .i64 a0_1) := (blk_cell HX46.out 1).trans rfl; have hx83 : w8.cell? ⟨w5.heap.size, 2, none⟩ = some (.slice Az41 l0_2.length cz41) := (blk_cell HX46.out 2).trans rfl) | (go_at_call 16; (with_reducible refine (laws_eqMatrix.calls k a0_0 a0_1 _ _ l0_2 a0_0 a0_1 _ _ l0_2 true _ ?side1 ?side2 ?side3 ?side4 A84.out).mono ?_); (case side1 => exact (Kd.S_reads' (n := l0_2.length) (A := Az41) (c := cz41) (by (with_reducible repeat (first | apply Kd.S_alloc | apply Kd.S_drewN | apply Kd.S_drew)); exact HO40.out)).2.2); (case side2 => exact (Kd.S_reads' (n := l0_2.length) (A := Az41) (c := cz41) HO40.out).2.1); (case side3 => exact (Kd.S_reads' (n := l0_2.length) (A := Az75) (c := cz75) (by (with_reducible repeat (first | apply Kd.S_alloc | apply Kd.S_drewN | apply Kd.S_drew)); exact HO74.out)).2.2); (case side4 => exact (Kd.S_reads' (n := l0_2.length) (A := Az75) (c := cz75) HO74.out).2.1); rintro e w9 ⟨rfl, hb⟩; have n1_ := Aside0.mk (Kd.R_below (by (with_reducible repeat (first | apply Kd.R_alloc | apply Kd.R_drewN | apply Kd.R_drew)); exact HO32.out) hb); have n2_ := Aside0.mk (Kd.S_below (by (with_reducible repeat (first | apply Kd.S_alloc | apply Kd.S_drewN | apply Kd.S_drew)); exact HO40.out) hb); have n3_ := Aside0.mk (Kd.R_below (by (with_reducible repeat (first | apply Kd.R_alloc | apply Kd.R_drewN | apply Kd.R_drew)); exact HO49.out) hb); have n4_ := Aside0.mk (Kd.R_below (by (with_reducible repeat (first | apply Kd.R_alloc | apply Kd.R_drewN | apply Kd.R_drew)); exact HO61.out) hb); have n5_ := Aside0.mk (Kd.S_below (by (with_reducible repeat (first | apply Kd.S_alloc | apply Kd.S_drewN | apply Kd.S_drew)); exact HO74.out) hb); have n6_ := Aside0.mk (blk_below (g := w.heap.size) (o := .cells #[.int .i64 a0_0, .int .i64 a0_1, .slice A0_2 l0_2.length c0_2] 24 (0, 0)) (by (with_reducible repeat (first | refine blk_drewN ?_ _ | refine blk_drew ?_ | refine blk_alloc ?_ _)); exact HX1.out) hb); have n7_ := Aside0.mk (blk_below (g := w5.heap.size) (o := .cells #[.int .i64 a0_0, .int .i64 a0_1, .slice Az41 l0_2.length cz41] 26 (0, 0)) (by (with_reducible repeat (first | refine blk_drewN ?_ _ | refine blk_drew ?_ | refine blk_alloc ?_ _)); exact HX46.out) hb); have n8_ := Aside0.mk (below_step (by repeat (first | (with_reducible first | exact HB.out | apply below_alloc | apply pw_below_drewN | apply below_drew1) | exact HB.out)) hb); have C85 : Aside0 (w8.heap.size ≤ w9.heap.size) := ⟨by have h_ := hb.size; (try simp at h_); omega⟩; have CCn_ := Aside0.mk (And.intro CC.out C85.out); clear CC; have CC := CCn_; clear CCn_; clear HO32; clear HO40; clear HO49; clear HO61; clear HO74; clear HX1; clear HX46; clear HB; clear hl76; clear hx77; clear hx78; clear hx79; clear hl80; clear hx81; clear hx82; clear hx83; have HO32 := n1_; clear n1_; have HO40 := n2_; clear n2_; have HO49 := n3_; clear n3_; have HO61 := n4_; clear n4_; have HO74 := n5_; clear n5_; have HX1 := n6_; clear n6_; have HX46 := n7_; clear n7_; have HB := n8_; clear n8_; (try clear hb); have hl86 : w.heap.size < w9.heap.size := blk_lt HX1.out; have hx87 : w9.cell? ⟨w.heap.size, 0, none⟩ = some (.int .i64 a0_0) := (blk_cell HX1.out 0).trans rfl; have hx88 : w9.cell? ⟨w.heap.size, 1, none⟩ = some (.int .i64 a0_1) := (blk_cell HX1.out 1).trans rfl; have hx89 : w9.cell? ⟨w.heap.size, 2, none⟩ = some (.slice A0_2 l0_2.length c0_2) := (blk_cell HX1.out 2).trans rfl; have hl90 : w5.heap.size < w9.heap.size := blk_lt HX46.out; have hx91 : w9.cell? ⟨w5.heap.size, 0, none⟩ = some (.int .i64 a0_0) := (blk_cell HX46.out 0).trans rfl; have hx92 : w9.cell? ⟨w5.heap.size, 1, none⟩ = some (.int .i64 a0_1) := (blk_cell HX46.out 1).trans rfl; have hx93 : w9.cell? ⟨w5.heap.size, 2, none⟩ = some (.slice Az41 l0_2.length cz41) := (blk_cell HX46.out 2).trans rfl))
  go_wp2_with (first | ((with_reducible refine gate_callee (f := 26) rfl ?_); refine goesL_ (some 59) rfl rfl Try.func26 (by kernel_rfl) rfl #[.slice A1 l1.length c1] rfl (by (try simp only [List.map_toArray, List.map_cons, List.map_nil]); first | done | rfl | (simp only [List.length_drop, List.length_take]; rfl)) ?_; (with_reducible refine (laws_toInt64S.calls k _ _ l1 l1 _ ?side1 ?side2 A94.out).mono ?_); (case side1 => exact Kd.C_below HR1.out (by repeat (first | (with_reducible first | exact HB.out | apply below_alloc | apply pw_below_drewN | apply below_drew1) | exact HB.out))); (case side2 => exact HC1.out); rintro e w10 ⟨v100_, rfl, ho0_, hb⟩; refine ⟨_, rfl, ?_⟩; have n1_ := Aside0.mk (Kd.R_below (by (with_reducible repeat (first | apply Kd.R_alloc | apply Kd.R_drewN | apply Kd.R_drew)); exact HO32.out) hb); have n2_ := Aside0.mk (Kd.S_below (by (with_reducible repeat (first | apply Kd.S_alloc | apply Kd.S_drewN | apply Kd.S_drew)); exact HO40.out) hb); have n3_ := Aside0.mk (Kd.R_below (by (with_reducible repeat (first | apply Kd.R_alloc | apply Kd.R_drewN | apply Kd.R_drew)); exact HO49.out) hb); have n4_ := Aside0.mk (Kd.R_below (by (with_reducible repeat (first | apply Kd.R_alloc | apply Kd.R_drewN | apply Kd.R_drew)); exact HO61.out) hb); have n5_ := Aside0.mk (blk_below (g := w.heap.size) (o := .cells #[.int .i64 a0_0, .int .i64 a0_1, .slice A0_2 l0_2.length c0_2] 24 (0, 0)) (by (with_reducible repeat (first | refine blk_drewN ?_ _ | refine blk_drew ?_ | refine blk_alloc ?_ _)); exact HX1.out) hb); have n6_ := Aside0.mk (blk_below (g := w5.heap.size) (o := .cells #[.int .i64 a0_0, .int .i64 a0_1, .slice Az41 l0_2.length cz41] 26 (0, 0)) (by (with_reducible repeat (first | refine blk_drewN ?_ _ | refine blk_drew ?_ | refine blk_alloc ?_ _)); exact HX46.out) hb); have n7_ := Aside0.mk (below_step (by repeat (first | (with_reducible first | exact HB.out | apply below_alloc | apply pw_below_drewN | apply below_drew1) | exact HB.out)) hb); have C95 : Aside0 (w9.heap.size ≤ w10.heap.size) := ⟨by have h_ := hb.size; (try simp at h_); omega⟩; have CCn_ := Aside0.mk (And.intro CC.out C95.out); clear CC; have CC := CCn_; clear CCn_; clear HO32; clear HO40; clear HO49; clear HO61; clear HX1; clear HX46; clear HB; clear hl86; clear hx87; clear hx88; clear hx89; clear hl90; clear hx91; clear hx92; clear hx93; have HO32 := n1_; clear n1_; have HO40 := n2_; clear n2_; have HO49 := n3_; clear n3_; have HO61 := n4_; clear n4_; have HX1 := n5_; clear n5_; have HX46 := n6_; clear n6_; have HB := n7_; clear n7_; have HO96 := Aside0.mk (Kd.R_lower (base' := w.heap.size) (Kd.R_mono (Kd.R_bound ho0_) (ok' := fun k_ => w9.heap.size ≤ k_ ∧ k_ < w10.heap.size) (fun k_ hk_ => ⟨by have h_ := hk_.2.1; (try simp at h_); omega, hk_.2.2.1⟩)) (by have := CC.out; first | omega | (simp; done) | (simp; omega))); obtain ⟨Az97, cz97, ez97⟩ := Kd.R_slice HO96.out; subst ez97; (try clear hb); (try clear ho0_); have hl98 : w.heap.size < w10.heap.size := blk_lt HX1.out; have hx99 : w10.cell? ⟨w.heap.size, 0, none⟩ = some (.int .i64 a0_0) := (blk_cell HX1.out 0).trans rfl; have hx100 : w10.cell? ⟨w.heap.size, 1, none⟩ = some (.int .i64 a0_1) := (blk_cell HX1.out 1).trans rfl; have hx101 : w10.cell? ⟨w.heap.size, 2, none⟩ = some (.slice A0_2 l0_2.length c0_2) := (blk_cell HX1.out 2).trans rfl; have hl102 : w5.heap.size < w10.heap.size := blk_lt HX46.out; have hx103 : w10.cell? ⟨w5.heap.size, 0, none⟩ = some (.int .i64 a0_0) := (blk_cell HX46.out 0).trans rfl; have hx104 : w10.cell? ⟨w5.heap.size, 1, none⟩ = some (.int .i64 a0_1) := (blk_cell HX46.out 1).trans rfl; have hx105 : w10.cell? ⟨w5.heap.size, 2, none⟩ = some (.slice Az41 l0_2.length cz41) := (blk_cell HX46.out 2).trans rfl) | ((with_reducible refine gate_callee (f := 28) rfl ?_); refine goesL_ (some 60) rfl rfl Try.func28 (by kernel_rfl) rfl #[.slice Az50 l1.length cz50, .slice Az97 l1.length cz97] rfl (by (try simp only [List.map_toArray, List.map_cons, List.map_nil]); first | done | rfl | (simp only [List.length_drop, List.length_take]; rfl)) ?_; (with_reducible refine (laws_eqInt64S.calls k _ _ l1 _ _ l1 true _ ?side1 ?side2 ?side3 ?side4 A106.out).mono ?_); (case side1 => exact (Kd.R_reads' (n := l1.length) (A := Az50) (c := cz50) (by (with_reducible repeat (first | apply Kd.R_alloc | apply Kd.R_drewN | apply Kd.R_drew)); exact HO49.out)).2.2); (case side2 => exact (Kd.R_reads' (n := l1.length) (A := Az50) (c := cz50) HO49.out).2.1); (case side3 => exact (Kd.R_reads' (n := l1.length) (A := Az97) (c := cz97) (by (with_reducible repeat (first | apply Kd.R_alloc | apply Kd.R_drewN | apply Kd.R_drew)); exact HO96.out)).2.2); (case side4 => exact (Kd.R_reads' (n := l1.length) (A := Az97) (c := cz97) HO96.out).2.1); rintro e w' ⟨rfl, ⟨nd, rfl⟩⟩; refine ⟨_, rfl, ?_⟩) | ((with_reducible refine gate_callee (f := 17) rfl ?_); refine goesL_ (some 64) rfl rfl Try.func17 (by kernel_rfl) rfl #[.agg #[.int .i64 a0_0, .int .i64 a0_1, .slice Az41 l0_2.length cz41], .int .i64 1] rfl (by (try simp only [List.map_toArray, List.map_cons, List.map_nil]); first | done | rfl | (simp only [List.length_drop, List.length_take]; rfl)) ?_; (with_reducible refine (laws_markMatrix.callsM k a0_0 a0_1 (fun k_ => w4.heap.size ≤ k_ ∧ k_ < w5.heap.size) (.slice Az41 l0_2.length cz41) l0_2 1 m107 ys108 w _ ?side1 ?side2 A109.out).mono ?_); (case side1 => repeat (first | (with_reducible first | exact HB.out | apply below_alloc | apply pw_below_drewN | apply below_drew1) | exact HB.out)); (case side2 => exact (by (with_reducible repeat (first | apply Kd.S_alloc | apply Kd.S_drewN | apply Kd.S_drew)); exact HO40.out)); rintro e w11 ⟨rfl, hm0_, hbk, hk⟩; refine ⟨_, rfl, ?_⟩; have n1_ := Aside0.mk (Kd.R_kept (by (with_reducible repeat (first | apply Kd.R_alloc | apply Kd.R_drewN | apply Kd.R_drew)); exact HO32.out) hk (fun k_ hk_ hs_ => by have := CC.out; have h1_ := hk_; have h2_ := hs_; omega)); have n2_ := Aside0.mk (Kd.R_kept (by (with_reducible repeat (first | apply Kd.R_alloc | apply Kd.R_drewN | apply Kd.R_drew)); exact HO49.out) hk (fun k_ hk_ hs_ => by have := CC.out; have h1_ := hk_; have h2_ := hs_; omega)); have n3_ := Aside0.mk (Kd.R_kept (by (with_reducible repeat (first | apply Kd.R_alloc | apply Kd.R_drewN | apply Kd.R_drew)); exact HO61.out) hk (fun k_ hk_ hs_ => by have := CC.out; have h1_ := hk_; have h2_ := hs_; omega)); have n4_ := Aside0.mk (blk_kept (g := w.heap.size) (o := .cells #[.int .i64 a0_0, .int .i64 a0_1, .slice A0_2 l0_2.length c0_2] 24 (0, 0)) (by (with_reducible repeat (first | refine blk_drewN ?_ _ | refine blk_drew ?_ | refine blk_alloc ?_ _)); exact HX1.out) hk (fun hs_ => by have := CC.out; have h2_ := hs_; omega)); have n5_ := Aside0.mk (blk_kept (g := w5.heap.size) (o := .cells #[.int .i64 a0_0, .int .i64 a0_1, .slice Az41 l0_2.length cz41] 26 (0, 0)) (by (with_reducible repeat (first | refine blk_drewN ?_ _ | refine blk_drew ?_ | refine blk_alloc ?_ _)); exact HX46.out) hk (fun hs_ => by have := CC.out; have h2_ := hs_; omega)); have n6_ := Aside0.mk (hbk); have C110 : Aside0 (w10.heap.size ≤ w11.heap.size) := ⟨by have h_ := hk.1; (try simp at h_); omega⟩; have CCn_ := Aside0.mk (And.intro CC.out C110.out); clear CC; have CC := CCn_; clear CCn_; clear HO32; clear HO49; clear HO61; clear HX1; clear HX46; clear HB; clear hl98; clear hx99; clear hx100; clear hx101; clear hl102; clear hx103; clear hx104; clear hx105; have HO32 := n1_; clear n1_; have HO49 := n2_; clear n2_; have HO61 := n3_; clear n3_; have HX1 := n4_; clear n4_; have HX46 := n5_; clear n5_; have HB := n6_; clear n6_; clear HO40; have HO40 := Aside0.mk hm0_; (try clear hk); (try clear hbk); (try clear hm0_); have hl111 : w.heap.size < w11.heap.size := blk_lt HX1.out; have hx112 : w11.cell? ⟨w.heap.size, 0, none⟩ = some (.int .i64 a0_0) := (blk_cell HX1.out 0).trans rfl; have hx113 : w11.cell? ⟨w.heap.size, 1, none⟩ = some (.int .i64 a0_1) := (blk_cell HX1.out 1).trans rfl; have hx114 : w11.cell? ⟨w.heap.size, 2, none⟩ = some (.slice A0_2 l0_2.length c0_2) := (blk_cell HX1.out 2).trans rfl; have hl115 : w5.heap.size < w11.heap.size := blk_lt HX46.out; have hx116 : w11.cell? ⟨w5.heap.size, 0, none⟩ = some (.int .i64 a0_0) := (blk_cell HX46.out 0).trans rfl; have hx117 : w11.cell? ⟨w5.heap.size, 1, none⟩ = some (.int .i64 a0_1) := (blk_cell HX46.out 1).trans rfl; have hx118 : w11.cell? ⟨w5.heap.size, 2, none⟩ = some (.slice Az41 l0_2.length cz41) := (blk_cell HX46.out 2).trans rfl) | ((with_reducible refine gate_callee (f := 31) rfl ?_); refine goesL_ (some 67) rfl rfl Try.func31 (by kernel_rfl) rfl #[.slice Az50 l1.length cz50, .int .i64 m107] rfl (by (try simp only [List.map_toArray, List.map_cons, List.map_nil]); first | done | rfl | (simp only [List.length_drop, List.length_take]; rfl)) ?_; (with_reducible refine (laws_markInt64S.callsM k (fun k_ => w5.heap.size + 1 ≤ k_ ∧ k_ < w6.heap.size) (.slice Az50 l1.length cz50) l1 m107 m119 ys120 w _ ?side1 ?side2 A121.out).mono ?_); (case side1 => repeat (first | (with_reducible first | exact HB.out | apply below_alloc | apply pw_below_drewN | apply below_drew1) | exact HB.out)); (case side2 => exact (by (with_reducible repeat (first | apply Kd.R_alloc | apply Kd.R_drewN | apply Kd.R_drew)); exact HO49.out)); rintro e w12 ⟨rfl, hm0_, hbk, hk⟩; refine ⟨_, rfl, ?_⟩; have n1_ := Aside0.mk (Kd.R_kept (by (with_reducible repeat (first | apply Kd.R_alloc | apply Kd.R_drewN | apply Kd.R_drew)); exact HO32.out) hk (fun k_ hk_ hs_ => by have := CC.out; have h1_ := hk_; have h2_ := hs_; omega)); have n2_ := Aside0.mk (Kd.S_kept (by (with_reducible repeat (first | apply Kd.S_alloc | apply Kd.S_drewN | apply Kd.S_drew)); exact HO40.out) hk (fun k_ hk_ hs_ => by have := CC.out; have h1_ := hk_; have h2_ := hs_; omega)); have n3_ := Aside0.mk (Kd.R_kept (by (with_reducible repeat (first | apply Kd.R_alloc | apply Kd.R_drewN | apply Kd.R_drew)); exact HO61.out) hk (fun k_ hk_ hs_ => by have := CC.out; have h1_ := hk_; have h2_ := hs_; omega)); have n4_ := Aside0.mk (blk_kept (g := w.heap.size) (o := .cells #[.int .i64 a0_0, .int .i64 a0_1, .slice A0_2 l0_2.length c0_2] 24 (0, 0)) (by (with_reducible repeat (first | refine blk_drewN ?_ _ | refine blk_drew ?_ | refine blk_alloc ?_ _)); exact HX1.out) hk (fun hs_ => by have := CC.out; have h2_ := hs_; omega)); have n5_ := Aside0.mk (blk_kept (g := w5.heap.size) (o := .cells #[.int .i64 a0_0, .int .i64 a0_1, .slice Az41 l0_2.length cz41] 26 (0, 0)) (by (with_reducible repeat (first | refine blk_drewN ?_ _ | refine blk_drew ?_ | refine blk_alloc ?_ _)); exact HX46.out) hk (fun hs_ => by have := CC.out; have h2_ := hs_; omega)); have n6_ := Aside0.mk (hbk); have C122 : Aside0 (w11.heap.size ≤ w12.heap.size) := ⟨by have h_ := hk.1; (try simp at h_); omega⟩; have CCn_ := Aside0.mk (And.intro CC.out C122.out); clear CC; have CC := CCn_; clear CCn_; clear HO32; clear HO40; clear HO61; clear HX1; clear HX46; clear HB; clear hl111; clear hx112; clear hx113; clear hx114; clear hl115; clear hx116; clear hx117; clear hx118; have HO32 := n1_; clear n1_; have HO40 := n2_; clear n2_; have HO61 := n3_; clear n3_; have HX1 := n4_; clear n4_; have HX46 := n5_; clear n5_; have HB := n6_; clear n6_; clear HO49; have HO49 := Aside0.mk hm0_; (try clear hk); (try clear hbk); (try clear hm0_); have hl123 : w.heap.size < w12.heap.size := blk_lt HX1.out; have hx124 : w12.cell? ⟨w.heap.size, 0, none⟩ = some (.int .i64 a0_0) := (blk_cell HX1.out 0).trans rfl; have hx125 : w12.cell? ⟨w.heap.size, 1, none⟩ = some (.int .i64 a0_1) := (blk_cell HX1.out 1).trans rfl; have hx126 : w12.cell? ⟨w.heap.size, 2, none⟩ = some (.slice A0_2 l0_2.length c0_2) := (blk_cell HX1.out 2).trans rfl; have hl127 : w5.heap.size < w12.heap.size := blk_lt HX46.out; have hx128 : w12.cell? ⟨w5.heap.size, 0, none⟩ = some (.int .i64 a0_0) := (blk_cell HX46.out 0).trans rfl; have hx129 : w12.cell? ⟨w5.heap.size, 1, none⟩ = some (.int .i64 a0_1) := (blk_cell HX46.out 1).trans rfl; have hx130 : w12.cell? ⟨w5.heap.size, 2, none⟩ = some (.slice Az41 l0_2.length cz41) := (blk_cell HX46.out 2).trans rfl) | (go_at_call 28; (with_reducible refine (laws_eqInt64S.calls k _ _ r28 _ _ r28 true _ ?side1 ?side2 ?side3 ?side4 A132.out).mono ?_); (case side1 => exact (Kd.R_reads' (n := r28.length) (A := Az62) (c := cz62) (by (with_reducible repeat (first | apply Kd.R_alloc | apply Kd.R_drewN | apply Kd.R_drew)); exact HO61.out)).2.2); (case side2 => exact (Kd.R_reads' (n := r28.length) (A := Az62) (c := cz62) HO61.out).2.1); (case side3 => exact (Kd.R_reads' (n := r28.length) (A := Az33) (c := cz33) (by (with_reducible repeat (first | apply Kd.R_alloc | apply Kd.R_drewN | apply Kd.R_drew)); exact HO32.out)).2.2); (case side4 => exact (Kd.R_reads' (n := r28.length) (A := Az33) (c := cz33) HO32.out).2.1); rintro e w' ⟨rfl, ⟨nd, rfl⟩⟩) | ((with_reducible refine gate_callee (f := 31) rfl ?_); refine goesL_ (some 83) rfl rfl Try.func31 (by kernel_rfl) rfl #[.slice Az62 r28.length cz62, .int .i64 1] rfl (by (try simp only [List.map_toArray, List.map_cons, List.map_nil]); first | done | rfl | (simp only [List.length_drop, List.length_take]; rfl)) ?_; (with_reducible refine (laws_markInt64S.callsM k (fun k_ => w6.heap.size ≤ k_ ∧ k_ < w7.heap.size) (.slice Az62 r28.length cz62) r28 1 m133 ys134 w _ ?side1 ?side2 A135.out).mono ?_); (case side1 => repeat (first | (with_reducible first | exact HB.out | apply below_alloc | apply pw_below_drewN | apply below_drew1) | exact HB.out)); (case side2 => exact (by (with_reducible repeat (first | apply Kd.R_alloc | apply Kd.R_drewN | apply Kd.R_drew)); exact HO61.out)); rintro e w13 ⟨rfl, hm0_, hbk, hk⟩; refine ⟨_, rfl, ?_⟩; have n1_ := Aside0.mk (Kd.R_kept (by (with_reducible repeat (first | apply Kd.R_alloc | apply Kd.R_drewN | apply Kd.R_drew)); exact HO32.out) hk (fun k_ hk_ hs_ => by have := CC.out; have h1_ := hk_; have h2_ := hs_; omega)); have n2_ := Aside0.mk (Kd.S_kept (by (with_reducible repeat (first | apply Kd.S_alloc | apply Kd.S_drewN | apply Kd.S_drew)); exact HO40.out) hk (fun k_ hk_ hs_ => by have := CC.out; have h1_ := hk_; have h2_ := hs_; omega)); have n3_ := Aside0.mk (Kd.R_kept (by (with_reducible repeat (first | apply Kd.R_alloc | apply Kd.R_drewN | apply Kd.R_drew)); exact HO49.out) hk (fun k_ hk_ hs_ => by have := CC.out; have h1_ := hk_; have h2_ := hs_; omega)); have n4_ := Aside0.mk (blk_kept (g := w.heap.size) (o := .cells #[.int .i64 a0_0, .int .i64 a0_1, .slice A0_2 l0_2.length c0_2] 24 (0, 0)) (by (with_reducible repeat (first | refine blk_drewN ?_ _ | refine blk_drew ?_ | refine blk_alloc ?_ _)); exact HX1.out) hk (fun hs_ => by have := CC.out; have h2_ := hs_; omega)); have n5_ := Aside0.mk (blk_kept (g := w5.heap.size) (o := .cells #[.int .i64 a0_0, .int .i64 a0_1, .slice Az41 l0_2.length cz41] 26 (0, 0)) (by (with_reducible repeat (first | refine blk_drewN ?_ _ | refine blk_drew ?_ | refine blk_alloc ?_ _)); exact HX46.out) hk (fun hs_ => by have := CC.out; have h2_ := hs_; omega)); have n6_ := Aside0.mk (hbk); have C136 : Aside0 (w12.heap.size ≤ w13.heap.size) := ⟨by have h_ := hk.1; (try simp at h_); omega⟩; have CCn_ := Aside0.mk (And.intro CC.out C136.out); clear CC; have CC := CCn_; clear CCn_; clear HO32; clear HO40; clear HO49; clear HX1; clear HX46; clear HB; clear hl123; clear hx124; clear hx125; clear hx126; clear hl127; clear hx128; clear hx129; clear hx130; have HO32 := n1_; clear n1_; have HO40 := n2_; clear n2_; have HO49 := n3_; clear n3_; have HX1 := n4_; clear n4_; have HX46 := n5_; clear n5_; have HB := n6_; clear n6_; clear HO61; have HO61 := Aside0.mk hm0_; (try clear hk); (try clear hbk); (try clear hm0_); have hl137 : w.heap.size < w13.heap.size := blk_lt HX1.out; have hx138 : w13.cell? ⟨w.heap.size, 0, none⟩ = some (.int .i64 a0_0) := (blk_cell HX1.out 0).trans rfl; have hx139 : w13.cell? ⟨w.heap.size, 1, none⟩ = some (.int .i64 a0_1) := (blk_cell HX1.out 1).trans rfl; have hx140 : w13.cell? ⟨w.heap.size, 2, none⟩ = some (.slice A0_2 l0_2.length c0_2) := (blk_cell HX1.out 2).trans rfl; have hl141 : w5.heap.size < w13.heap.size := blk_lt HX46.out; have hx142 : w13.cell? ⟨w5.heap.size, 0, none⟩ = some (.int .i64 a0_0) := (blk_cell HX46.out 0).trans rfl; have hx143 : w13.cell? ⟨w5.heap.size, 1, none⟩ = some (.int .i64 a0_1) := (blk_cell HX46.out 1).trans rfl; have hx144 : w13.cell? ⟨w5.heap.size, 2, none⟩ = some (.slice Az41 l0_2.length cz41) := (blk_cell HX46.out 2).trans rfl) | ((with_reducible refine gate_callee (f := 32) rfl ?_); refine goesL_ (some 86) rfl rfl Try.func32 (by kernel_rfl) rfl #[.slice Az62 r28.length cz62, .int .i64 1] rfl (by (try simp only [List.map_toArray, List.map_cons, List.map_nil]); first | done | rfl | (simp only [List.length_drop, List.length_take]; rfl)) ?_; (with_reducible refine (calls_as ?eq_ (laws_heldInt64S.calls k Az62 cz62 ys134 1 m133 _ ?side1 ?side2 A145.out)).mono ?_); (case eq_ => rw [show ys134.length = r28.length from (Kd.R_reads' HO61.out).1.symm]); (case side1 => exact (Kd.R_reads' (n := r28.length) (A := Az62) (c := cz62) (by (with_reducible repeat (first | apply Kd.R_alloc | apply Kd.R_drewN | apply Kd.R_drew)); exact HO61.out)).2.2); (case side2 => exact Nat.le_trans (Nat.le_of_eq (Kd.R_reads' HO61.out).1.symm) (Kd.R_reads' HO61.out).2.1); rintro e w' ⟨rfl, ⟨nd, rfl⟩⟩; refine ⟨_, rfl, ?_⟩) | ((with_reducible refine gate_callee (f := 14) rfl ?_); refine goesL_ (some 94) rfl rfl Try.func14 (by kernel_rfl) rfl #[.agg #[.int .i64 a0_0, .int .i64 a0_1, .slice A0_2 l0_2.length c0_2]] rfl (by (try simp only [List.map_toArray, List.map_cons, List.map_nil]); first | done | rfl | (simp only [List.length_drop, List.length_take]; rfl)) ?_; (with_reducible refine (laws_toMatrix.calls k a0_0 a0_1 _ _ l0_2 a0_0 a0_1 l0_2 _ ?side1 ?side2 A147.out).mono ?_); (case side1 => exact Kd.C_below HR0_2.out (by repeat (first | (with_reducible first | exact HB.out | apply below_alloc | apply pw_below_drewN | apply below_drew1) | exact HB.out))); (case side2 => exact HC0_2.out); rintro e w14 ⟨v100_, rfl, ho0_, hb⟩; refine ⟨_, rfl, ?_⟩; have n1_ := Aside0.mk (Kd.R_below (by (with_reducible repeat (first | apply Kd.R_alloc | apply Kd.R_drewN | apply Kd.R_drew)); exact HO32.out) hb); have n2_ := Aside0.mk (Kd.S_below (by (with_reducible repeat (first | apply Kd.S_alloc | apply Kd.S_drewN | apply Kd.S_drew)); exact HO40.out) hb); have n3_ := Aside0.mk (Kd.R_below (by (with_reducible repeat (first | apply Kd.R_alloc | apply Kd.R_drewN | apply Kd.R_drew)); exact HO49.out) hb); have n4_ := Aside0.mk (Kd.R_below (by (with_reducible repeat (first | apply Kd.R_alloc | apply Kd.R_drewN | apply Kd.R_drew)); exact HO61.out) hb); have n5_ := Aside0.mk (blk_below (g := w.heap.size) (o := .cells #[.int .i64 a0_0, .int .i64 a0_1, .slice A0_2 l0_2.length c0_2] 24 (0, 0)) (by (with_reducible repeat (first | refine blk_drewN ?_ _ | refine blk_drew ?_ | refine blk_alloc ?_ _)); exact HX1.out) hb); have n6_ := Aside0.mk (blk_below (g := w5.heap.size) (o := .cells #[.int .i64 a0_0, .int .i64 a0_1, .slice Az41 l0_2.length cz41] 26 (0, 0)) (by (with_reducible repeat (first | refine blk_drewN ?_ _ | refine blk_drew ?_ | refine blk_alloc ?_ _)); exact HX46.out) hb); have n7_ := Aside0.mk (below_step (by repeat (first | (with_reducible first | exact HB.out | apply below_alloc | apply pw_below_drewN | apply below_drew1) | exact HB.out)) hb); have C148 : Aside0 (w13.heap.size ≤ w14.heap.size) := ⟨by have h_ := hb.size; (try simp at h_); omega⟩; have CCn_ := Aside0.mk (And.intro CC.out C148.out); clear CC; have CC := CCn_; clear CCn_; clear HO32; clear HO40; clear HO49; clear HO61; clear HX1; clear HX46; clear HB; clear hl137; clear hx138; clear hx139; clear hx140; clear hl141; clear hx142; clear hx143; clear hx144; have HO32 := n1_; clear n1_; have HO40 := n2_; clear n2_; have HO49 := n3_; clear n3_; have HO61 := n4_; clear n4_; have HX1 := n5_; clear n5_; have HX46 := n6_; clear n6_; have HB := n7_; clear n7_; have HO149 := Aside0.mk (Kd.S_lower (base' := w.heap.size) (Kd.S_mono (Kd.S_bound ho0_) (ok' := fun k_ => w13.heap.size ≤ k_ ∧ k_ < w14.heap.size) (fun k_ hk_ => ⟨by have h_ := hk_.2.1; (try simp at h_); omega, hk_.2.2.1⟩)) (by have := CC.out; first | omega | (simp; done) | (simp; omega))); obtain ⟨Az150, cz150, ez150⟩ := Kd.S_slice HO149.out; subst ez150; (try clear hb); (try clear ho0_); have hl151 : w.heap.size < w14.heap.size := blk_lt HX1.out; have hx152 : w14.cell? ⟨w.heap.size, 0, none⟩ = some (.int .i64 a0_0) := (blk_cell HX1.out 0).trans rfl; have hx153 : w14.cell? ⟨w.heap.size, 1, none⟩ = some (.int .i64 a0_1) := (blk_cell HX1.out 1).trans rfl; have hx154 : w14.cell? ⟨w.heap.size, 2, none⟩ = some (.slice A0_2 l0_2.length c0_2) := (blk_cell HX1.out 2).trans rfl; have hl155 : w5.heap.size < w14.heap.size := blk_lt HX46.out; have hx156 : w14.cell? ⟨w5.heap.size, 0, none⟩ = some (.int .i64 a0_0) := (blk_cell HX46.out 0).trans rfl; have hx157 : w14.cell? ⟨w5.heap.size, 1, none⟩ = some (.int .i64 a0_1) := (blk_cell HX46.out 1).trans rfl; have hx158 : w14.cell? ⟨w5.heap.size, 2, none⟩ = some (.slice Az41 l0_2.length cz41) := (blk_cell HX46.out 2).trans rfl) | ((with_reducible refine gate_callee (f := 26) rfl ?_); refine goesL_ (some 96) rfl rfl Try.func26 (by kernel_rfl) rfl #[.slice A1 l1.length c1] rfl (by (try simp only [List.map_toArray, List.map_cons, List.map_nil]); first | done | rfl | (simp only [List.length_drop, List.length_take]; rfl)) ?_; (with_reducible refine (laws_toInt64S.calls k _ _ l1 l1 _ ?side1 ?side2 A159.out).mono ?_); (case side1 => exact Kd.C_below HR1.out (by repeat (first | (with_reducible first | exact HB.out | apply below_alloc | apply pw_below_drewN | apply below_drew1) | exact HB.out))); (case side2 => exact HC1.out); rintro e w15 ⟨v100_, rfl, ho0_, hb⟩; refine ⟨_, rfl, ?_⟩; have n1_ := Aside0.mk (Kd.R_below (by (with_reducible repeat (first | apply Kd.R_alloc | apply Kd.R_drewN | apply Kd.R_drew)); exact HO32.out) hb); have n2_ := Aside0.mk (Kd.S_below (by (with_reducible repeat (first | apply Kd.S_alloc | apply Kd.S_drewN | apply Kd.S_drew)); exact HO40.out) hb); have n3_ := Aside0.mk (Kd.R_below (by (with_reducible repeat (first | apply Kd.R_alloc | apply Kd.R_drewN | apply Kd.R_drew)); exact HO49.out) hb); have n4_ := Aside0.mk (Kd.R_below (by (with_reducible repeat (first | apply Kd.R_alloc | apply Kd.R_drewN | apply Kd.R_drew)); exact HO61.out) hb); have n5_ := Aside0.mk (Kd.S_below (by (with_reducible repeat (first | apply Kd.S_alloc | apply Kd.S_drewN | apply Kd.S_drew)); exact HO149.out) hb); have n6_ := Aside0.mk (blk_below (g := w.heap.size) (o := .cells #[.int .i64 a0_0, .int .i64 a0_1, .slice A0_2 l0_2.length c0_2] 24 (0, 0)) (by (with_reducible repeat (first | refine blk_drewN ?_ _ | refine blk_drew ?_ | refine blk_alloc ?_ _)); exact HX1.out) hb); have n7_ := Aside0.mk (blk_below (g := w5.heap.size) (o := .cells #[.int .i64 a0_0, .int .i64 a0_1, .slice Az41 l0_2.length cz41] 26 (0, 0)) (by (with_reducible repeat (first | refine blk_drewN ?_ _ | refine blk_drew ?_ | refine blk_alloc ?_ _)); exact HX46.out) hb); have n8_ := Aside0.mk (below_step (by repeat (first | (with_reducible first | exact HB.out | apply below_alloc | apply pw_below_drewN | apply below_drew1) | exact HB.out)) hb); have C160 : Aside0 (w14.heap.size ≤ w15.heap.size) := ⟨by have h_ := hb.size; (try simp at h_); omega⟩; have CCn_ := Aside0.mk (And.intro CC.out C160.out); clear CC; have CC := CCn_; clear CCn_; clear HO32; clear HO40; clear HO49; clear HO61; clear HO149; clear HX1; clear HX46; clear HB; clear hl151; clear hx152; clear hx153; clear hx154; clear hl155; clear hx156; clear hx157; clear hx158; have HO32 := n1_; clear n1_; have HO40 := n2_; clear n2_; have HO49 := n3_; clear n3_; have HO61 := n4_; clear n4_; have HO149 := n5_; clear n5_; have HX1 := n6_; clear n6_; have HX46 := n7_; clear n7_; have HB := n8_; clear n8_; have HO161 := Aside0.mk (Kd.R_lower (base' := w.heap.size) (Kd.R_mono (Kd.R_bound ho0_) (ok' := fun k_ => w14.heap.size ≤ k_ ∧ k_ < w15.heap.size) (fun k_ hk_ => ⟨by have h_ := hk_.2.1; (try simp at h_); omega, hk_.2.2.1⟩)) (by have := CC.out; first | omega | (simp; done) | (simp; omega))); obtain ⟨Az162, cz162, ez162⟩ := Kd.R_slice HO161.out; subst ez162; (try clear hb); (try clear ho0_); have hl163 : w.heap.size < w15.heap.size := blk_lt HX1.out; have hx164 : w15.cell? ⟨w.heap.size, 0, none⟩ = some (.int .i64 a0_0) := (blk_cell HX1.out 0).trans rfl; have hx165 : w15.cell? ⟨w.heap.size, 1, none⟩ = some (.int .i64 a0_1) := (blk_cell HX1.out 1).trans rfl; have hx166 : w15.cell? ⟨w.heap.size, 2, none⟩ = some (.slice A0_2 l0_2.length c0_2) := (blk_cell HX1.out 2).trans rfl; have hl167 : w5.heap.size < w15.heap.size := blk_lt HX46.out; have hx168 : w15.cell? ⟨w5.heap.size, 0, none⟩ = some (.int .i64 a0_0) := (blk_cell HX46.out 0).trans rfl; have hx169 : w15.cell? ⟨w5.heap.size, 1, none⟩ = some (.int .i64 a0_1) := (blk_cell HX46.out 1).trans rfl; have hx170 : w15.cell? ⟨w5.heap.size, 2, none⟩ = some (.slice Az41 l0_2.length cz41) := (blk_cell HX46.out 2).trans rfl) | ((with_reducible refine gate_callee (f := 30) rfl ?_); refine goesL_ (some 97) rfl rfl Try.func30 (by kernel_rfl) rfl #[.agg #[.int .i64 a0_0, .int .i64 a0_1, .slice Az150 l0_2.length cz150], .slice Az162 l1.length cz162] rfl (by (try simp only [List.map_toArray, List.map_cons, List.map_nil]); first | done | rfl | (simp only [List.length_drop, List.length_take]; rfl)) ?_; (with_reducible refine (impl_Combination.calls k a0_0 a0_1 _ _ l0_2 _ _ l1 r28 r29 _ ?side1 ?side2 ?side3 ?side4 A171.out).mono ?_); (case side1 => exact (Kd.S_reads' (n := l0_2.length) (A := Az150) (c := cz150) (by (with_reducible repeat (first | apply Kd.S_alloc | apply Kd.S_drewN | apply Kd.S_drew)); exact HO149.out)).2.2); (case side2 => exact (Kd.S_reads' (n := l0_2.length) (A := Az150) (c := cz150) HO149.out).2.1); (case side3 => exact (Kd.R_reads' (n := l1.length) (A := Az162) (c := cz162) (by (with_reducible repeat (first | apply Kd.R_alloc | apply Kd.R_drewN | apply Kd.R_drew)); exact HO161.out)).2.2); (case side4 => exact (Kd.R_reads' (n := l1.length) (A := Az162) (c := cz162) HO161.out).2.1); rintro e w16 ⟨v100_, rfl, ho0_, hb⟩; refine ⟨_, rfl, ?_⟩; have n1_ := Aside0.mk (Kd.R_below (by (with_reducible repeat (first | apply Kd.R_alloc | apply Kd.R_drewN | apply Kd.R_drew)); exact HO32.out) hb); have n2_ := Aside0.mk (Kd.S_below (by (with_reducible repeat (first | apply Kd.S_alloc | apply Kd.S_drewN | apply Kd.S_drew)); exact HO40.out) hb); have n3_ := Aside0.mk (Kd.R_below (by (with_reducible repeat (first | apply Kd.R_alloc | apply Kd.R_drewN | apply Kd.R_drew)); exact HO49.out) hb); have n4_ := Aside0.mk (Kd.R_below (by (with_reducible repeat (first | apply Kd.R_alloc | apply Kd.R_drewN | apply Kd.R_drew)); exact HO61.out) hb); have n5_ := Aside0.mk (Kd.S_below (by (with_reducible repeat (first | apply Kd.S_alloc | apply Kd.S_drewN | apply Kd.S_drew)); exact HO149.out) hb); have n6_ := Aside0.mk (Kd.R_below (by (with_reducible repeat (first | apply Kd.R_alloc | apply Kd.R_drewN | apply Kd.R_drew)); exact HO161.out) hb); have n7_ := Aside0.mk (blk_below (g := w.heap.size) (o := .cells #[.int .i64 a0_0, .int .i64 a0_1, .slice A0_2 l0_2.length c0_2] 24 (0, 0)) (by (with_reducible repeat (first | refine blk_drewN ?_ _ | refine blk_drew ?_ | refine blk_alloc ?_ _)); exact HX1.out) hb); have n8_ := Aside0.mk (blk_below (g := w5.heap.size) (o := .cells #[.int .i64 a0_0, .int .i64 a0_1, .slice Az41 l0_2.length cz41] 26 (0, 0)) (by (with_reducible repeat (first | refine blk_drewN ?_ _ | refine blk_drew ?_ | refine blk_alloc ?_ _)); exact HX46.out) hb); have n9_ := Aside0.mk (below_step (by repeat (first | (with_reducible first | exact HB.out | apply below_alloc | apply pw_below_drewN | apply below_drew1) | exact HB.out)) hb); have C172 : Aside0 (w15.heap.size ≤ w16.heap.size) := ⟨by have h_ := hb.size; (try simp at h_); omega⟩; have CCn_ := Aside0.mk (And.intro CC.out C172.out); clear CC; have CC := CCn_; clear CCn_; clear HO32; clear HO40; clear HO49; clear HO61; clear HO149; clear HO161; clear HX1; clear HX46; clear HB; clear hl163; clear hx164; clear hx165; clear hx166; clear hl167; clear hx168; clear hx169; clear hx170; have HO32 := n1_; clear n1_; have HO40 := n2_; clear n2_; have HO49 := n3_; clear n3_; have HO61 := n4_; clear n4_; have HO149 := n5_; clear n5_; have HO161 := n6_; clear n6_; have HX1 := n7_; clear n7_; have HX46 := n8_; clear n8_; have HB := n9_; clear n9_; have HO173 := Aside0.mk (Kd.R_lower (base' := w.heap.size) (Kd.R_mono (Kd.R_bound ho0_) (ok' := fun k_ => w15.heap.size ≤ k_ ∧ k_ < w16.heap.size) (fun k_ hk_ => ⟨by have h_ := hk_.2.1; (try simp at h_); omega, hk_.2.2.1⟩)) (by have := CC.out; first | omega | (simp; done) | (simp; omega))); obtain ⟨Az174, cz174, ez174⟩ := Kd.R_slice HO173.out; subst ez174; (try clear hb); (try clear ho0_); have hl175 : w.heap.size < w16.heap.size := blk_lt HX1.out; have hx176 : w16.cell? ⟨w.heap.size, 0, none⟩ = some (.int .i64 a0_0) := (blk_cell HX1.out 0).trans rfl; have hx177 : w16.cell? ⟨w.heap.size, 1, none⟩ = some (.int .i64 a0_1) := (blk_cell HX1.out 1).trans rfl; have hx178 : w16.cell? ⟨w.heap.size, 2, none⟩ = some (.slice A0_2 l0_2.length c0_2) := (blk_cell HX1.out 2).trans rfl; have hl179 : w5.heap.size < w16.heap.size := blk_lt HX46.out; have hx180 : w16.cell? ⟨w5.heap.size, 0, none⟩ = some (.int .i64 a0_0) := (blk_cell HX46.out 0).trans rfl; have hx181 : w16.cell? ⟨w5.heap.size, 1, none⟩ = some (.int .i64 a0_1) := (blk_cell HX46.out 1).trans rfl; have hx182 : w16.cell? ⟨w5.heap.size, 2, none⟩ = some (.slice Az41 l0_2.length cz41) := (blk_cell HX46.out 2).trans rfl) | ((with_reducible refine gate_callee (f := 28) rfl ?_); refine goesL_ (some 102) rfl rfl Try.func28 (by kernel_rfl) rfl #[.slice Az174 r28.length cz174, .slice Az33 r28.length cz33] rfl (by (try simp only [List.map_toArray, List.map_cons, List.map_nil]); first | done | rfl | (simp only [List.length_drop, List.length_take]; rfl)) ?_; (with_reducible refine (laws_eqInt64S.calls k _ _ r28 _ _ r28 true _ ?side1 ?side2 ?side3 ?side4 A183.out).mono ?_); (case side1 => exact (Kd.R_reads' (n := r28.length) (A := Az174) (c := cz174) (by (with_reducible repeat (first | apply Kd.R_alloc | apply Kd.R_drewN | apply Kd.R_drew)); exact HO173.out)).2.2); (case side2 => exact (Kd.R_reads' (n := r28.length) (A := Az174) (c := cz174) HO173.out).2.1); (case side3 => exact (Kd.R_reads' (n := r28.length) (A := Az33) (c := cz33) (by (with_reducible repeat (first | apply Kd.R_alloc | apply Kd.R_drewN | apply Kd.R_drew)); exact HO32.out)).2.2); (case side4 => exact (Kd.R_reads' (n := r28.length) (A := Az33) (c := cz33) HO32.out).2.1); rintro e w' ⟨rfl, ⟨nd, rfl⟩⟩; refine ⟨_, rfl, ?_⟩) | ((with_reducible refine gate_callee (f := 32) rfl ?_); refine goesL_ (some 111) rfl rfl Try.func32 (by kernel_rfl) rfl #[.slice Az62 r28.length cz62, .int .i64 1] rfl (by (try simp only [List.map_toArray, List.map_cons, List.map_nil]); first | done | rfl | (simp only [List.length_drop, List.length_take]; rfl)) ?_; (with_reducible refine (calls_as ?eq_ (laws_heldInt64S.calls k Az62 cz62 ys134 1 m133 _ ?side1 ?side2 A184.out)).mono ?_); (case eq_ => rw [show ys134.length = r28.length from (Kd.R_reads' HO61.out).1.symm]); (case side1 => exact (Kd.R_reads' (n := r28.length) (A := Az62) (c := cz62) (by (with_reducible repeat (first | apply Kd.R_alloc | apply Kd.R_drewN | apply Kd.R_drew)); exact HO61.out)).2.2); (case side2 => exact Nat.le_trans (Nat.le_of_eq (Kd.R_reads' HO61.out).1.symm) (Kd.R_reads' HO61.out).2.1); rintro e w' ⟨rfl, ⟨nd, rfl⟩⟩; refine ⟨_, rfl, ?_⟩))
  go_ret
  exact ⟨rfl, by repeat (first | (with_reducible first | exact HB.out | apply below_alloc | apply pw_below_drewN | apply below_drew1) | exact HB.out)⟩

end Go.Proofs.Ytjpbemomocccaaa.P

namespace Go.Proofs.Ytjpbemomocccaaa.P
open Go.RowKit Go.Proofs.YtjpbemomocccaaaW.PrintWords Go.Proofs.YtjpbemomocccaaaW.PrintLast Go.Proofs.YtjpbemomocccaaaW.PrintMore
attribute [local go_sem] max2_int min2_int max_two min_two max_three min_three max_four min_four
set_option linter.unusedVariables false
set_option linter.unusedSimpArgs false

section
variable {H : Type} {enc : TypeId × Value → H} {P : Program} {w : World} {base : Nat} {held : Bool} {α : Type}
/-- Whatever reads as a datum of type t (at this depth) is a value of kind d. -/
def OpensAt (enc : TypeId × Value → H) (P : Program) (w : World) (base : Nat) (held : Bool) (n : Nat) (t : TypeId) (d : Kd α) (wf : α → Prop) : Prop :=
  ∀ cs x, DataW.trod enc P w base (fun _ => true) held n t cs = some x → ∃ a, d.K w a cs ∧ wf a
theorem opens_int (n : Nat) {t : TypeId} {k : IntKind} (ht : P.underlying t = some (.int k)) : OpensAt enc P w base held n t (Kd.int k) (fun a => (Lit.int k a).wf = true) := fun cs x h => by
  obtain ⟨a, rfl, _, hw⟩ := DataW.trod_int ht h
  exact ⟨a, rfl, hw⟩
theorem list_upto {Q : Nat → α → Prop} : ∀ n, (∀ i, i < n → ∃ y, Q i y) → ∃ xs : List α, xs.length = n ∧ ∀ (i : Nat) (y : α), xs[i]? = some y → Q i y
  | 0, _ => ⟨[], rfl, fun i y h => by simp at h⟩
  | n + 1, h => by
    obtain ⟨xs, hl, hx⟩ := list_upto n (fun i hi => h i (by omega))
    obtain ⟨y, hy⟩ := h n (by omega)
    refine ⟨xs ++ [y], by simp [hl], fun i z hz => ?_⟩
    by_cases e : i < xs.length
    · rw [List.getElem?_append_left e] at hz
      exact hx i z hz
    · rw [List.getElem?_append_right (by omega)] at hz
      have : i - xs.length = 0 := by
        have := (List.getElem?_eq_some_iff.1 hz).1
        simp at this
        omega
      rw [this] at hz
      obtain rfl : y = z := by simpa using hz
      obtain rfl : i = n := by omega
      exact hy
theorem opens_slice (n : Nat) {t e : TypeId} {d : Kd α} {wf : α → Prop} (ht : P.underlying t = some (.slice e)) (hc : P.cellsOf e = d.sz) (he : OpensAt enc P w base held n e d wf) :
    OpensAt enc P w base held (n + 1) t (Kd.slice e d) (fun xs => xs.length ≤ 9223372036854775807 ∧ ∀ x ∈ xs, wf x) := fun cs x h => by
  rcases DataW.trod_slice ht h with ⟨rfl, _⟩ | ⟨a, len, cap, elems, rest, m, hn, rfl, _, _, hl, hm, hlen, hel, _, _⟩
  · exact ⟨[], ⟨none, 0, rfl, Nat.le_refl _, ⟨rfl, by simp, fun h => absurd h (by simp)⟩⟩, by simp⟩
  · obtain rfl : n = m := by omega
    obtain ⟨xs, hxl, hx⟩ := list_upto (Q := fun i y => (∃ c : List Value, c.length = d.sz ∧ d.K w y c ∧ ∀ j u, c[j]? = some u → w.cell? (a.add (i * d.sz + j)) = some u) ∧ wf y) len (fun i hi => by
      have h1 := hel i hi
      rw [List.getElem?_eq_getElem (by omega)] at h1
      obtain ⟨c, hc1, hc2⟩ := Option.bind_eq_some_iff.1 h1
      obtain ⟨y, hy, hw⟩ := he c _ hc2
      obtain ⟨_, hcl, hcc⟩ := World.cells?_some hc1
      refine ⟨y, ⟨c, by rw [hcl, hc], hy, fun j u hu => ?_⟩, hw⟩
      have hj : j < P.cellsOf e := by rw [← hcl]; exact (List.getElem?_eq_some_iff.1 hu).1
      have h2 := hcc j hj
      rw [hu, hc] at h2
      rw [← h2, Addr.add_add])
    subst hxl
    unfold maxLen at hm
    refine ⟨xs, ⟨some a, cap, rfl, hl, ⟨rfl, by omega, fun _ => ⟨a, rfl, fun j p hj => (hx j p hj).1⟩⟩⟩, by omega, fun y hy => ?_⟩
    obtain ⟨i, hi⟩ := List.mem_iff_getElem?.1 hy
    exact (hx i y hi).2
/-- At any depth. -/
theorem OpensAt.any {t : TypeId} {d : Kd α} {wf : α → Prop} (h : ∀ n, OpensAt enc P w base held n t d wf) {v : Value} {y : DataW H} {p : List MemPlace} (hv : DataW.Trod enc P w base (fun _ => true) held t v y p) : ∃ a, d.K w a v.cells.toList ∧ wf a := by
  obtain ⟨fuel, hf⟩ := hv
  exact h fuel _ _ hf
theorem opens_slice_any {t e : TypeId} {d : Kd α} {wf : α → Prop} (ht : P.underlying t = some (.slice e)) (hc : P.cellsOf e = d.sz) (he : ∀ n, OpensAt enc P w base held n e d wf) : ∀ n, OpensAt enc P w base held n t (Kd.slice e d) (fun xs => xs.length ≤ 9223372036854775807 ∧ ∀ x ∈ xs, wf x)
  | 0 => fun cs x h => by simp [DataW.trod] at h
  | n + 1 => opens_slice n ht hc (he n)
end

end Go.Proofs.Ytjpbemomocccaaa.P

namespace Go.Proofs.Ytjpbemomocccaaa.P
open Go.RowKit Go.Proofs.YtjpbemomocccaaaW.PrintWords Go.Proofs.YtjpbemomocccaaaW.PrintLast Go.Proofs.YtjpbemomocccaaaW.PrintMore
attribute [local go_sem] max2_int min2_int max_two min_two max_three min_three max_four min_four
set_option linter.unusedVariables false
set_option linter.unusedSimpArgs false

def wfS24 (x : S24) : Prop := ((Lit.int .i64 x.f0).wf = true) ∧ ((Lit.int .i64 x.f1).wf = true) ∧ (x.f2.length ≤ 9223372036854775807 ∧ ∀ y12_ ∈ x.f2, y12_.length ≤ 9223372036854775807 ∧ ∀ y7_ ∈ y12_, (Lit.int .i64 y7_).wf = true)
theorem list_of_24 {α : Type} {l : List α} (h : l.length = 3) : ∃ c0 c1 c2, l = [c0, c1, c2] := by
  match l, h with
  | [c0, c1, c2], _ => exact ⟨c0, c1, c2, rfl⟩
theorem opensS24 {H : Type} {enc : TypeId × Value → H} {w : World} {base : Nat} {held : Bool} : ∀ n, OpensAt enc Try.prog w base held n 24 k24 wfS24
  | 0 => fun cs x h => by simp [DataW.trod] at h
  | n + 1 => fun cs x h => by
    obtain ⟨xs, m, hm, _, hl, hlen, hf⟩ := DataW.trod_struct Try.underlying24 h
    obtain rfl : n = m := by omega
    rw [show Try.prog.cellsOf 24 = 3 from by kernel_rfl] at hl
    obtain ⟨c0, c1, c2, rfl⟩ := list_of_24 hl
    have h0 : DataW.trod enc Try.prog w base (fun _ => true) held (n) 2 [c0] = xs[0]? := by
        have q := hf 0 _ rfl
        simpa [show Try.prog.cellsOf 2 = 1 from by kernel_rfl] using q
    rw [List.getElem?_eq_getElem (by rw [hlen]; decide)] at h0
    obtain ⟨a0, e0, w0⟩ := (fun n => opens_int n Try.underlying2) (n) _ _ h0
    cases e0
    have h1 : DataW.trod enc Try.prog w base (fun _ => true) held (n) 2 [c1] = xs[1]? := by
        have q := hf 1 _ rfl
        simpa [show Try.prog.cellsOf 2 = 1 from by kernel_rfl] using q
    rw [List.getElem?_eq_getElem (by rw [hlen]; decide)] at h1
    obtain ⟨a1, e1, w1⟩ := (fun n => opens_int n Try.underlying2) (n) _ _ h1
    cases e1
    have h2 : DataW.trod enc Try.prog w base (fun _ => true) held (n) 22 [c2] = xs[2]? := by
        have q := hf 2 _ rfl
        simpa [show Try.prog.cellsOf 22 = 1 from by kernel_rfl] using q
    rw [List.getElem?_eq_getElem (by rw [hlen]; decide)] at h2
    obtain ⟨a2, ⟨A2, n2, e2, l2, g2⟩, w2⟩ := (opens_slice_any Try.underlying22 (by kernel_rfl) (opens_slice_any Try.underlying35 (by kernel_rfl) (fun n => opens_int n Try.underlying2))) (n) _ _ h2
    cases e2
    exact ⟨⟨a0, a1, a2⟩, k24_mk w ⟨a0, a1, a2⟩ l2 g2, w0, w1, w2⟩

end Go.Proofs.Ytjpbemomocccaaa.P

namespace Go.Proofs.Ytjpbemomocccaaa.P
open Go.RowKit Go.Proofs.YtjpbemomocccaaaW.PrintWords Go.Proofs.YtjpbemomocccaaaW.PrintLast Go.Proofs.YtjpbemomocccaaaW.PrintMore
attribute [local go_sem] max2_int min2_int max_two min_two max_three min_three max_four min_four
set_option linter.unusedVariables false
set_option linter.unusedSimpArgs false

def laws_FnExactCombination.Way0 (x0 : S24) (l1 : List Int) : Prop := ∃ k : Nat, (decide (1048576 < (l1.length : Int)) = true) ∧ (decide (1048576 < l1.length) = true)
def laws_FnExactCombination.Way1 (x0 : S24) (l1 : List Int) : Prop := ∃ k : Nat, ∃ (s4 : Int), (decide (1048576 < (l1.length : Int)) = false) ∧ (decide (1048576 < l1.length) = false) ∧ (laws_szMatrix.f k x0.f0 x0.f1 x0.f2 1048576 = some s4) ∧ (decide (s4 < 0) = true)
def laws_FnExactCombination.Way2 (x0 : S24) (l1 : List Int) : Prop := ∃ k : Nat, ∃ (s4 : Int) (r28 : List Int) (r29 : Int) (m107 : Int) (ys108 : List (List Int)) (m119 : Int) (ys120 : List Int) (m133 : Int) (ys134 : List Int), (decide (1048576 < (l1.length : Int)) = false) ∧ (decide (1048576 < l1.length) = false) ∧ (laws_szMatrix.f k x0.f0 x0.f1 x0.f2 1048576 = some s4) ∧ (decide (s4 < 0) = false) ∧ (laws_toMatrix.f k x0.f0 x0.f1 x0.f2 = some (x0.f0, x0.f1, x0.f2)) ∧ (laws_toInt64S.f k l1 = some l1) ∧ (spec_Combination.f k x0.f0 x0.f1 x0.f2 l1 = some (r28, r29)) ∧ (laws_toMatrix.f k x0.f0 x0.f1 x0.f2 = some (x0.f0, x0.f1, x0.f2)) ∧ (laws_toInt64S.f k l1 = some l1) ∧ (impl_Combination.f k x0.f0 x0.f1 x0.f2 l1 = some (r28, r29)) ∧ (laws_eqInt64S.f k r28 r28 = some true) ∧ (laws_toMatrix.f k x0.f0 x0.f1 x0.f2 = some (x0.f0, x0.f1, x0.f2)) ∧ (laws_eqMatrix.f k x0.f0 x0.f1 x0.f2 x0.f0 x0.f1 x0.f2 = some true) ∧ (laws_toInt64S.f k l1 = some l1) ∧ (laws_eqInt64S.f k l1 l1 = some true) ∧ (laws_markMatrix.f k x0.f0 x0.f1 x0.f2 1 = some (m107, ys108)) ∧ (laws_markInt64S.f k l1 m107 = some (m119, ys120)) ∧ (decide (m119 < 0) = false) ∧ (laws_eqInt64S.f k r28 r28 = some true) ∧ (laws_markInt64S.f k r28 1 = some (m133, ys134)) ∧ (laws_heldInt64S.f k ys134 1 = some m133) ∧ (decide (m133 < 0) = false) ∧ (laws_toMatrix.f k x0.f0 x0.f1 x0.f2 = some (x0.f0, x0.f1, x0.f2)) ∧ (laws_toInt64S.f k l1 = some l1) ∧ (impl_Combination.f k x0.f0 x0.f1 x0.f2 l1 = some (r28, r29)) ∧ (laws_eqInt64S.f k r28 r28 = some true) ∧ (laws_heldInt64S.f k ys134 1 = some m133) ∧ (decide (m133 < 0) = false)
def laws_FnExactCombination.Pure : Prop := ∀ (x0 : S24) (l1 : List Int), wfS24 x0 → (l1.length ≤ 9223372036854775807 ∧ ∀ y7_ ∈ l1, (Lit.int .i64 y7_).wf = true) → laws_FnExactCombination.Way0 x0 l1 ∨ laws_FnExactCombination.Way1 x0 l1 ∨ laws_FnExactCombination.Way2 x0 l1
theorem laws_FnExactCombination.walk (P : laws_FnExactCombination.Pure) (x0 : S24) (l1 : List Int) (A0_2 : Option Addr) (c0_2 : Nat) (A1 : Option Addr) (c1 : Nat) (w : World) (hr0_2 : Kd.C (Kd.slice 2 (Kd.int .i64)) w A0_2 x0.f2.length x0.f2) (hc0_2 : x0.f2.length ≤ c0_2) (hr1 : Kd.C (Kd.int .i64) w A1 l1.length l1) (hc1 : l1.length ≤ c1) (wf0 : wfS24 x0) (wf1 : (l1.length ≤ 9223372036854775807 ∧ ∀ y7_ ∈ l1, (Lit.int .i64 y7_).wf = true)) :
    Calls Try.prog 8 #[.agg #[.int .i64 x0.f0, .int .i64 x0.f1, .slice A0_2 x0.f2.length c0_2], .slice A1 l1.length c1] w fun e w' => e = .returned (.bool true) ∧ Below w.heap.size w w' := by
  rcases P x0 l1 wf0 wf1 with h | h | h
  · obtain ⟨k, t2, t3⟩ := h
    exact laws_FnExactCombination.way0 k x0.f0 x0.f1 _ _ x0.f2 _ _ l1  w hr0_2 hc0_2 hr1 hc1 t2 t3
  · obtain ⟨k, s4, t2, t3, A5, t11⟩ := h
    exact laws_FnExactCombination.way1 k x0.f0 x0.f1 _ _ x0.f2 _ _ l1 s4 w hr0_2 hc0_2 hr1 hc1 t2 t3 A5 t11
  · obtain ⟨k, s4, r28, r29, m107, ys108, m119, ys120, m133, ys134, t2, t3, A5, t11, A12, A20, A30, A38, A47, A59, A71, A72, A84, A94, A106, A109, A121, t131, A132, A135, A145, t146, A147, A159, A171, A183, A184, t185⟩ := h
    exact laws_FnExactCombination.way2 k x0.f0 x0.f1 _ _ x0.f2 _ _ l1 s4 r28 r29 m107 ys108 m119 ys120 m133 ys134 w hr0_2 hc0_2 hr1 hc1 t2 t3 A5 t11 A12 A20 A30 A38 A47 A59 A71 A72 A84 A94 A106 A109 A121 t131 A132 A135 A145 t146 A147 A159 A171 A183 A184 t185

end Go.Proofs.Ytjpbemomocccaaa.P

namespace Go.Proofs.Ytjpbemomocccaaa.P
open Go.RowKit Go.Proofs.YtjpbemomocccaaaW.PrintWords Go.Proofs.YtjpbemomocccaaaW.PrintLast Go.Proofs.YtjpbemomocccaaaW.PrintMore
attribute [local go_sem] max2_int min2_int max_two min_two max_three min_three max_four min_four
set_option linter.unusedVariables false
set_option linter.unusedSimpArgs false

theorem toInt64S_loop (l : List Int) (hl : l.length ≤ 1048576) : ∀ (d i : Nat), i + d = l.length → Ev (fun k => laws_toInt64S.l0 k l (l.take i ++ List.replicate d 0) (i : Int)) l := by
  intro d
  induction d with
  | zero =>
    intro i hi
    refine Ev.step (f := fun _ => some l) (fun k => ?_) (Ev.now _)
    simp only [laws_toInt64S.l0]
    rw [if_neg (by omega)]
    simp [List.take_of_length_le (show l.length ≤ i by omega)]
  | succ d ih =>
    intro i hi
    have hlt : i < l.length := by omega
    refine Ev.step (fun k => ?_) (ih (i + 1) (by omega))
    simp only [laws_toInt64S.l0]
    rw [if_pos (by omega), if_pos (by omega), if_pos (by simp; omega), wr (by omega) (by omega), rd_nat l i hlt]
    have e : (l.take i ++ List.replicate (d + 1) 0).set ((i : Int)).toNat l[i] = l.take (i + 1) ++ List.replicate d 0 := by
      have e0 : (l.take i).length = i := by rw [List.length_take]; omega
      rw [Int.toNat_natCast, List.set_append_right _ _ (by omega), e0, Nat.sub_self, List.replicate_succ, List.set_cons_zero, List.take_succ_eq_append_getElem hlt, List.append_assoc]
      rfl
    rw [e]
    rfl
theorem toInt64S_ev (l : List Int) (hl : l.length ≤ 1048576) : Ev (fun k => laws_toInt64S.f k l) l := by
  unfold laws_toInt64S.f
  simp only [if_pos (show (0 : Int) ≤ (l.length : Int) by omega), if_pos (show ((l.length : Int)).toNat ≤ 35184372088832 by omega)]
  have := toInt64S_loop l hl l.length 0 (by omega)
  rw [List.take_zero, List.nil_append] at this
  rw [Int.toNat_natCast]
  exact this
theorem eqInt64S_loop (a b : List Int) (hl : a.length ≤ 1048576) (hab : a.length = b.length) : ∀ (d i : Nat), i + d = a.length → Ev (fun k => laws_eqInt64S.l0 k a b (i : Int)) (decide (a.drop i = b.drop i)) := by
  intro d
  induction d with
  | zero =>
    intro i hi
    refine Ev.step (f := fun _ => some true) (fun k => ?_) ?_
    · simp only [laws_eqInt64S.l0]
      rw [if_neg (by omega)]
    · rw [List.drop_eq_nil_of_le (by omega), List.drop_eq_nil_of_le (by omega), decide_eq_true rfl]
      exact Ev.now _
  | succ d ih =>
    intro i hi
    have h1 : i < a.length := by omega
    have h2 : i < b.length := by omega
    have ed : (a.drop i = b.drop i) ↔ (a[i] = b[i] ∧ a.drop (i + 1) = b.drop (i + 1)) := by
      rw [List.drop_eq_getElem_cons h1, List.drop_eq_getElem_cons h2, List.cons.injEq]
    by_cases e : a[i] = b[i]
    · rw [show decide (a.drop i = b.drop i) = decide (a.drop (i + 1) = b.drop (i + 1)) from by simp only [ed, e, true_and]]
      refine Ev.step (fun k => ?_) (ih (i + 1) (by omega))
      simp only [laws_eqInt64S.l0]
      rw [if_pos (by omega), if_pos (by omega), if_pos (by omega), rd_nat a i h1, rd_nat b i h2, if_pos e, wr (by omega) (by omega)]
      rfl
    · refine Ev.step (f := fun _ => some false) (fun k => ?_) ?_
      · simp only [laws_eqInt64S.l0]
        rw [if_pos (by omega), if_pos (by omega), if_pos (by omega), rd_nat a i h1, rd_nat b i h2, if_neg e]
      · rw [decide_eq_false (by rw [ed]; simp [e])]
        exact Ev.now _
theorem eqInt64S_ev (a b : List Int) (hl : a.length ≤ 1048576) : Ev (fun k => laws_eqInt64S.f k a b) (decide (a = b)) := by
  unfold laws_eqInt64S.f
  by_cases h : a.length = b.length
  · simp only [if_pos (show (a.length : Int) = (b.length : Int) by omega)]
    have := eqInt64S_loop a b hl h a.length 0 (by omega)
    rw [List.drop_zero, List.drop_zero] at this
    exact this
  · simp only [if_neg (show ¬ (a.length : Int) = (b.length : Int) by omega)]
    rw [decide_eq_false (by intro e; exact h (by rw [e]))]
    exact Ev.now _
theorem eqInt64S_same (a : List Int) (hl : a.length ≤ 1048576) : Ev (fun k => laws_eqInt64S.f k a a) true := by
  have := eqInt64S_ev a a hl
  rwa [decide_eq_true rfl] at this
def before (l : List Int) (i : Nat) : Option Int := if i = 0 then none else l[i - 1]?
end Go.Proofs.Ytjpbemomocccaaa.P

namespace Go.Proofs.Ytjpbemomocccaaa.P
open Go.RowKit Go.Proofs.YtjpbemomocccaaaW.PrintWords Go.Proofs.YtjpbemomocccaaaW.PrintLast Go.Proofs.YtjpbemomocccaaaW.PrintMore
attribute [local go_sem] max2_int min2_int max_two min_two max_three min_three max_four min_four
set_option linter.unusedVariables false
set_option linter.unusedSimpArgs false

/-- A loop that goes on while q says yes, and ends with stop where it says no. -/
theorem scan_ev {ρ : Type} {l : Nat → Int → Option ρ} {n : Nat} {q : Nat → Bool} {fin stop : ρ}
    (hgo : ∀ i : Nat, i < n → q i = true → ∀ r, Ev (fun k => l k ((i + 1 : Nat) : Int)) r → Ev (fun k => l k (i : Int)) r)
    (hstop : ∀ i : Nat, i < n → q i = false → Ev (fun k => l k (i : Int)) stop)
    (hend : Ev (fun k => l k (n : Int)) fin) : Ev (fun k => l k 0) (if (List.range n).all q then fin else stop) := by
  have key : ∀ d i : Nat, i + d = n → Ev (fun k => l k (i : Int)) (if ((List.range n).drop i).all q then fin else stop) := by
    intro d
    induction d with
    | zero =>
      intro i hi
      obtain rfl : i = n := by omega
      rw [List.drop_eq_nil_of_le (by simp)]
      exact hend
    | succ d ih =>
      intro i hi
      rw [List.drop_eq_getElem_cons (by simp; omega), List.getElem_range, List.all_cons]
      cases hq : q i with
      | false => exact hstop i (by omega) hq
      | true => rw [Bool.true_and]; exact hgo i (by omega) hq _ (ih (i + 1) (by omega))
  have := key n 0 (by omega)
  rw [List.drop_zero] at this
  exact this
theorem range_all {α : Type} (xs : List α) (p : α → Bool) (q : Nat → Bool) (h : ∀ (i : Nat) (hi : i < xs.length), q i = p xs[i]) : (List.range xs.length).all q = xs.all p := by
  rw [Bool.eq_iff_iff, List.all_eq_true, List.all_eq_true]
  constructor
  · intro hq x hx
    obtain ⟨i, hi, rfl⟩ := List.getElem_of_mem hx
    rw [← h i hi]
    exact hq i (by simpa using hi)
  · intro hp i hi
    have hi' : i < xs.length := by simpa using hi
    rw [h i hi']
    exact hp _ (List.getElem_mem hi')
theorem rdL_nat (xs : List (List Int)) (i : Nat) (h : i < xs.length) : rd_L1 xs (i : Int) = xs[i] := by
  simp [rd_L1, h]
/-- How many values a list of lists holds, the lists themselves counted. -/
def bulk (rows : List (List Int)) : Nat := rows.length + (rows.map List.length).sum
theorem sum_take_le (l : List Nat) (i : Nat) : (l.take i).sum ≤ l.sum := by
  conv => rhs; rw [← List.take_append_drop i l, List.sum_append]
  omega
theorem sum_take_succ (l : List Nat) (i : Nat) (h : i < l.length) : (l.take (i + 1)).sum = (l.take i).sum + l[i] := by
  rw [List.take_succ_eq_append_getElem h, List.sum_append]; simp
theorem sum_mem_le (l : List Nat) (x : Nat) (h : x ∈ l) : x ≤ l.sum := by
  obtain ⟨i, hi, rfl⟩ := List.getElem_of_mem h
  have := sum_take_succ l i hi
  have := sum_take_le l (i + 1)
  omega
theorem szInt64S_eq (l : List Int) (a : Int) (ha : 0 ≤ a ∧ a ≤ 1048576) (hl : l.length ≤ 9223372036854775807) : laws_szInt64S.f l a = some (if (l.length : Int) ≤ a then a - l.length else -1) := by
  unfold laws_szInt64S.f
  rw [wr (by omega) (by omega)]
  by_cases h : (l.length : Int) ≤ a
  · rw [if_neg (by omega), if_pos h]
  · rw [if_pos (by omega), if_neg h]
theorem szInt64SS_ev (rows : List (List Int)) (a : Int) (ha : 0 ≤ a ∧ a ≤ 1048576) (hl : rows.length ≤ 9223372036854775807) (hr : ∀ r ∈ rows, r.length ≤ 9223372036854775807) :
    Ev (fun k => laws_szInt64SS.f k rows a) (if (bulk rows : Int) ≤ a then a - bulk rows else -1) := by
  unfold laws_szInt64SS.f
  rw [wr (by omega) (by omega)]
  by_cases h0 : a - (rows.length : Int) < 0
  · simp only [if_pos h0]
    rw [if_neg (by unfold bulk; omega)]
    exact Ev.now _
  · simp only [if_neg h0]
    have key : ∀ d i : Nat, i + d = rows.length → ∀ b : Int, 0 ≤ b → b = a - rows.length - ((rows.map List.length).take i).sum → Ev (fun k => laws_szInt64SS.l0 k rows b (i : Int)) (if (bulk rows : Int) ≤ a then a - bulk rows else -1) := by
      intro d
      induction d with
      | zero =>
        intro i hi b hb hbe
        rw [List.take_of_length_le (by simp; omega)] at hbe
        rw [if_pos (by unfold bulk; omega), show a - ((bulk rows : Nat) : Int) = b from by unfold bulk; omega]
        refine Ev.step (f := fun _ => some b) (fun k => ?_) (Ev.now _)
        simp only [laws_szInt64SS.l0]
        rw [if_neg (by omega)]
      | succ d ih =>
        intro i hi b hb hbe
        have hlt : i < rows.length := by omega
        have hs := sum_take_succ (rows.map List.length) i (by simpa using hlt)
        rw [List.getElem_map] at hs
        have hs2 := sum_take_le (rows.map List.length) (i + 1)
        have hri := hr _ (List.getElem_mem hlt)
        by_cases hc : ((rows[i]).length : Int) ≤ b
        · refine Ev.step (fun k => ?_) (ih (i + 1) (by omega) (b - (rows[i]).length) (by omega) (by omega))
          simp only [laws_szInt64SS.l0]
          rw [if_pos (by omega), if_pos (by omega), rdL_nat rows i hlt, szInt64S_eq _ _ (by omega) hri, if_pos hc, wr (x := (i : Int) + 1) (by omega) (by omega)]
          simp only [Option.bind_some]
          rw [if_neg (by omega)]
          rfl
        · refine Ev.step (f := fun _ => some (-1)) (fun k => ?_) ?_
          · simp only [laws_szInt64SS.l0]
            rw [if_pos (by omega), if_pos (by omega), rdL_nat rows i hlt, szInt64S_eq _ _ (by omega) hri, if_neg hc]
            rfl
          · rw [if_neg (by unfold bulk; omega)]
            exact Ev.now _
    exact key rows.length 0 (by omega) _ (by omega) (by simp)
theorem bulk_len {rows : List (List Int)} {n : Nat} (h : bulk rows ≤ n) : rows.length ≤ n ∧ ∀ r ∈ rows, r.length ≤ n := by
  unfold bulk at h
  refine ⟨by omega, fun r hr => ?_⟩
  have := sum_mem_le (rows.map List.length) r.length (List.mem_map_of_mem hr)
  omega
theorem toInt64SS_ev (l : List (List Int)) (hl : l.length ≤ 1048576) (hr : ∀ r ∈ l, r.length ≤ 1048576) : Ev (fun k => laws_toInt64SS.f k l) l := by
  unfold laws_toInt64SS.f
  simp only [if_pos (show (0 : Int) ≤ (l.length : Int) by omega), if_pos (show ((l.length : Int)).toNat ≤ 11728124029610 by omega)]
  have go : ∀ (d i : Nat), i + d = l.length → Ev (fun k => laws_toInt64SS.l0 k l (l.take i ++ List.replicate d []) (i : Int)) l := by
    intro d
    induction d with
    | zero =>
      intro i hi
      refine Ev.step (f := fun _ => some l) (fun k => ?_) (Ev.now _)
      simp only [laws_toInt64SS.l0]
      rw [if_neg (by omega)]
      simp [List.take_of_length_le (show l.length ≤ i by omega)]
    | succ d ih =>
      intro i hi
      have hlt : i < l.length := by omega
      refine Ev.step (f := fun k => (laws_toInt64S.f k l[i]).bind fun t => laws_toInt64SS.l0 k l ((l.take i ++ List.replicate (d + 1) []).set i t) ((i + 1 : Nat) : Int)) (fun k => ?_) ?_
      · simp only [laws_toInt64SS.l0]
        rw [if_pos (by omega), if_pos (by omega), rdL_nat l i hlt, wr (by omega) (by omega)]
        simp only [if_pos (show (i : Int) < ((l.take i ++ List.replicate (d + 1) ([] : List Int)).length : Int) by simp; omega), Int.toNat_natCast]
        rfl
      · refine Ev.bind (toInt64S_ev _ (hr _ (List.getElem_mem hlt))) ?_
        have e0 : (l.take i).length = i := by rw [List.length_take]; omega
        have e : (l.take i ++ List.replicate (d + 1) []).set i l[i] = l.take (i + 1) ++ List.replicate d [] := by
          rw [List.set_append_right _ _ (by omega), e0, Nat.sub_self, List.replicate_succ, List.set_cons_zero, List.take_succ_eq_append_getElem hlt, List.append_assoc]
          rfl
        rw [e]
        exact ih (i + 1) (by omega)
  have := go l.length 0 (by omega)
  rw [List.take_zero, List.nil_append] at this
  rw [Int.toNat_natCast]
  exact this
theorem eqInt64SS_ev (a b : List (List Int)) (hl : a.length ≤ 1048576) (hr : ∀ r ∈ a, r.length ≤ 1048576) : Ev (fun k => laws_eqInt64SS.f k a b) (decide (a = b)) := by
  unfold laws_eqInt64SS.f
  by_cases h : a.length = b.length
  · simp only [if_pos (show (a.length : Int) = (b.length : Int) by omega)]
    have key : ∀ (d i : Nat), i + d = a.length → Ev (fun k => laws_eqInt64SS.l0 k a b (i : Int)) (decide (a.drop i = b.drop i)) := by
      intro d
      induction d with
      | zero =>
        intro i hi
        refine Ev.step (f := fun _ => some true) (fun k => ?_) ?_
        · simp only [laws_eqInt64SS.l0]
          rw [if_neg (by omega)]
        · rw [List.drop_eq_nil_of_le (by omega), List.drop_eq_nil_of_le (by omega), decide_eq_true rfl]
          exact Ev.now _
      | succ d ih =>
        intro i hi
        have h1 : i < a.length := by omega
        have h2 : i < b.length := by omega
        have ed : (a.drop i = b.drop i) ↔ (a[i] = b[i] ∧ a.drop (i + 1) = b.drop (i + 1)) := by
          rw [List.drop_eq_getElem_cons h1, List.drop_eq_getElem_cons h2, List.cons.injEq]
        refine Ev.step (f := fun k => (laws_eqInt64S.f k a[i] b[i]).bind fun t => if t = true then laws_eqInt64SS.l0 k a b ((i + 1 : Nat) : Int) else some false) (fun k => ?_) ?_
        · simp only [laws_eqInt64SS.l0]
          rw [if_pos (by omega), if_pos (by omega), if_pos (by omega), rdL_nat a i h1, rdL_nat b i h2, wr (by omega) (by omega)]
          rfl
        · refine Ev.bind (eqInt64S_ev _ _ (hr _ (List.getElem_mem h1))) ?_
          by_cases e : a[i] = b[i]
          · rw [decide_eq_true e, show decide (a.drop i = b.drop i) = decide (a.drop (i + 1) = b.drop (i + 1)) from by simp only [ed, e, true_and]]
            exact ih (i + 1) (by omega)
          · rw [decide_eq_false e, decide_eq_false (by rw [ed]; simp [e])]
            exact Ev.now _
    have := key a.length 0 (by omega)
    rw [List.drop_zero, List.drop_zero] at this
    exact this
  · simp only [if_neg (show ¬ (a.length : Int) = (b.length : Int) by omega)]
    rw [decide_eq_false (by intro e; exact h (by rw [e]))]
    exact Ev.now _
theorem eqInt64SS_same (a : List (List Int)) (hl : a.length ≤ 1048576) (hr : ∀ r ∈ a, r.length ≤ 1048576) : Ev (fun k => laws_eqInt64SS.f k a a) true := by
  have := eqInt64SS_ev a a hl hr
  rwa [decide_eq_true rfl] at this
theorem szMatrix_ev (p c : Int) (rows : List (List Int)) (a : Int) (ha : 0 ≤ a ∧ a ≤ 1048576) (hl : rows.length ≤ 9223372036854775807) (hr : ∀ r ∈ rows, r.length ≤ 9223372036854775807) :
    Ev (fun k => laws_szMatrix.f k p c rows a) (if (bulk rows : Int) ≤ a then a - bulk rows else -1) := by
  unfold laws_szMatrix.f
  refine Ev.bind (szInt64SS_ev rows a ha hl hr) ?_
  by_cases h : (bulk rows : Int) ≤ a
  · simp only [if_pos h, if_neg (show ¬ (a - (bulk rows : Int) < 0) by omega)]
    exact Ev.now _
  · simp only [if_neg h]
    exact Ev.now _
theorem toMatrix_ev (p c : Int) (l : List (List Int)) (hl : l.length ≤ 1048576) (hr : ∀ r ∈ l, r.length ≤ 1048576) : Ev (fun k => laws_toMatrix.f k p c l) (p, c, l) := by
  unfold laws_toMatrix.f
  exact Ev.bind (toInt64SS_ev l hl hr) (Ev.now _)
theorem eqMatrix_same (p c : Int) (l : List (List Int)) (hl : l.length ≤ 1048576) (hr : ∀ r ∈ l, r.length ≤ 1048576) : Ev (fun k => laws_eqMatrix.f k p c l p c l) true := by
  unfold laws_eqMatrix.f
  simp only [if_true]
  refine Ev.bind (eqInt64SS_same l hl hr) ?_
  simp only [if_true]
  exact Ev.now _

end Go.Proofs.Ytjpbemomocccaaa.P

namespace Go.Proofs.Ytjpbemomocccaaa.P
open Go.RowKit Go.Proofs.YtjpbemomocccaaaW.PrintWords Go.Proofs.YtjpbemomocccaaaW.PrintLast Go.Proofs.YtjpbemomocccaaaW.PrintMore
attribute [local go_sem] max2_int min2_int max_two min_two max_three min_three max_four min_four
set_option linter.unusedVariables false
set_option linter.unusedSimpArgs false

/-- What holds from some number of rounds on. -/
def From (P : Nat → Prop) : Prop := ∃ K, ∀ k, K ≤ k → P k
theorem From.and {P Q : Nat → Prop} (hp : From P) (hq : From Q) : From fun k => P k ∧ Q k := by
  obtain ⟨K, hK⟩ := hp
  obtain ⟨L, hL⟩ := hq
  exact ⟨max K L, fun k h => ⟨hK k (by omega), hL k (by omega)⟩⟩
theorem From.now {P : Nat → Prop} (h : From P) : ∃ k, P k := by
  obtain ⟨K, hK⟩ := h
  exact ⟨K, hK K (Nat.le_refl _)⟩
end Go.Proofs.Ytjpbemomocccaaa.P

namespace Go.Proofs.Ytjpbemomocccaaa.P
open Go.RowKit Go.Proofs.YtjpbemomocccaaaW.PrintWords Go.Proofs.YtjpbemomocccaaaW.PrintLast Go.Proofs.YtjpbemomocccaaaW.PrintMore
attribute [local go_sem] max2_int min2_int max_two min_two max_three min_three max_four min_four
set_option linter.unusedVariables false
set_option linter.unusedSimpArgs false

/-! ### laws_heldInt64SS: function 54 -/
end Go.Proofs.Ytjpbemomocccaaa.P

namespace Go.Proofs.Ytjpbemomocccaaa.P
open Go.RowKit Go.Proofs.YtjpbemomocccaaaW.PrintWords Go.Proofs.YtjpbemomocccaaaW.PrintLast Go.Proofs.YtjpbemomocccaaaW.PrintMore
attribute [local go_sem] max2_int min2_int max_two min_two max_three min_three max_four min_four
set_option linter.unusedVariables false
set_option linter.unusedSimpArgs false

/-! ### laws_heldMatrix: function 18 -/
end Go.Proofs.Ytjpbemomocccaaa.P

namespace Go.Proofs.Ytjpbemomocccaaa.P
open Go.RowKit Go.Proofs.YtjpbemomocccaaaW.PrintWords Go.Proofs.YtjpbemomocccaaaW.PrintLast Go.Proofs.YtjpbemomocccaaaW.PrintMore
attribute [local go_sem] max2_int min2_int max_two min_two max_three min_three max_four min_four
set_option linter.unusedVariables false
set_option linter.unusedSimpArgs false

/-! ### laws_markScheme: function 44 (by hand) -/
end Go.Proofs.Ytjpbemomocccaaa.P

namespace Go.Proofs.Ytjpbemomocccaaa.P
open Go.RowKit Go.Proofs.YtjpbemomocccaaaW.PrintWords Go.Proofs.YtjpbemomocccaaaW.PrintLast Go.Proofs.YtjpbemomocccaaaW.PrintMore
attribute [local go_sem] max2_int min2_int max_two min_two max_three min_three max_four min_four
set_option linter.unusedVariables false
set_option linter.unusedSimpArgs false

/-! ### laws_heldScheme: function 45 -/
end Go.Proofs.Ytjpbemomocccaaa.P

namespace Go.Proofs.Ytjpbemomocccaaa.P
open Go.RowKit Go.Proofs.YtjpbemomocccaaaW.PrintWords Go.Proofs.YtjpbemomocccaaaW.PrintLast Go.Proofs.YtjpbemomocccaaaW.PrintMore
attribute [local go_sem] max2_int min2_int max_two min_two max_three min_three max_four min_four
set_option linter.unusedVariables false
set_option linter.unusedSimpArgs false

/-- The numbers from a on, n of them: what a mark leaves. -/
def upFrom (a : Int) (n : Nat) : List Int := (List.range n).map fun i : Nat => a + (i : Int)
theorem upFrom_length (a : Int) (n : Nat) : (upFrom a n).length = n := by simp [upFrom]
theorem upFrom_succ (a : Int) (n : Nat) : upFrom a (n + 1) = upFrom a n ++ [a + (n : Int)] := by simp [upFrom, List.range_succ]
/-- A loop that writes one place after another. -/
theorem markInt64S_ev (l : List Int) (a : Int) (ha : 0 ≤ a ∧ a ≤ 2147483648) (hl : l.length ≤ 4611686018427387904) : Ev (fun k => laws_markInt64S.f k l a) (a + (l.length : Int), upFrom a l.length) := by
  unfold laws_markInt64S.f
  have key : ∀ d i : Nat, i + d = l.length → Ev (fun k => laws_markInt64S.l0 k (upFrom a i ++ l.drop i) (a + (i : Int)) (i : Int)) (a + (l.length : Int), upFrom a l.length) := by
    intro d
    induction d with
    | zero =>
      intro i hi
      obtain rfl : i = l.length := by omega
      refine Ev.step (f := fun _ => some (a + (l.length : Int), upFrom a l.length)) (fun k => ?_) (Ev.now _)
      simp only [laws_markInt64S.l0]
      rw [if_neg (by simp [upFrom_length]), List.drop_length, List.append_nil]
    | succ d ih =>
      intro i hi
      have hlt : i < l.length := by omega
      refine Ev.step (fun k => ?_) (ih (i + 1) (by omega))
      simp only [laws_markInt64S.l0]
      rw [if_pos (by simp [upFrom_length]; omega), if_pos (by omega), wr (by omega) (by omega), wr (by omega) (by omega), Int.toNat_natCast, List.set_append_right _ _ (by rw [upFrom_length]; exact Nat.le_refl _), upFrom_length, Nat.sub_self, List.drop_eq_getElem_cons hlt, List.set_cons_zero, upFrom_succ, List.append_assoc]
      rw [show a + (i : Int) + 1 = a + ((i + 1 : Nat) : Int) by omega]
      rfl
  have := key l.length 0 (by omega)
  simpa [upFrom] using this
theorem heldInt64S_ev (a : Int) (n : Nat) (ha : 0 ≤ a ∧ a ≤ 2147483648) (hl : n ≤ 4611686018427387904) : Ev (fun k => laws_heldInt64S.f k (upFrom a n) a) (a + (n : Int)) := by
  unfold laws_heldInt64S.f
  have key : ∀ d i : Nat, i + d = n → Ev (fun k => laws_heldInt64S.l0 k (upFrom a n) (a + (i : Int)) (i : Int)) (a + (n : Int)) := by
    intro d
    induction d with
    | zero =>
      intro i hi
      obtain rfl : i = n := by omega
      refine Ev.step (f := fun _ => some (a + (i : Int))) (fun k => ?_) (Ev.now _)
      simp only [laws_heldInt64S.l0]
      rw [if_neg (by simp [upFrom_length])]
    | succ d ih =>
      intro i hi
      have hlt : i < (upFrom a n).length := by rw [upFrom_length]; omega
      refine Ev.step (fun k => ?_) (ih (i + 1) (by omega))
      simp only [laws_heldInt64S.l0]
      rw [if_pos (by simp [upFrom_length]; omega), if_pos (by omega), rd_nat _ i hlt, if_pos (by simp [upFrom]), wr (by omega) (by omega), wr (by omega) (by omega)]
      rw [show a + (i : Int) + 1 = a + ((i + 1 : Nat) : Int) by omega]
      rfl
  have := key n 0 (by omega)
  simpa using this
/-- How many values the first i rows hold. -/
def preLen (rows : List (List Int)) (i : Nat) : Nat := ((rows.map List.length).take i).sum
def allLen (rows : List (List Int)) : Nat := (rows.map List.length).sum
def upRow (a : Int) (rows : List (List Int)) (i : Nat) : List Int := upFrom (a + (preLen rows i : Int)) ((rows.map List.length).getD i 0)
/-- Rows as a mark leaves them. -/
def upRows (a : Int) (rows : List (List Int)) : List (List Int) := (List.range rows.length).map (upRow a rows)
theorem preLen_succ (rows : List (List Int)) (i : Nat) (h : i < rows.length) : preLen rows (i + 1) = preLen rows i + rows[i].length := by
  have := sum_take_succ (rows.map List.length) i (by simpa using h)
  rwa [List.getElem_map] at this
theorem preLen_le (rows : List (List Int)) (i : Nat) : preLen rows i ≤ allLen rows := sum_take_le _ _
theorem preLen_end (rows : List (List Int)) : preLen rows rows.length = allLen rows := by
  unfold preLen allLen
  rw [List.take_of_length_le (by simp)]
theorem upRow_eq (a : Int) (rows : List (List Int)) (i : Nat) (h : i < rows.length) : upRow a rows i = upFrom (a + (preLen rows i : Int)) rows[i].length := by
  unfold upRow
  rw [List.getD_eq_getElem?_getD, List.getElem?_map, List.getElem?_eq_getElem h]
  rfl
theorem markInt64SS_ev (rows : List (List Int)) (a : Int) (ha : 0 ≤ a ∧ a ≤ 1073741824) (hl : rows.length ≤ 1073741824) (hs : allLen rows ≤ 1073741824) : Ev (fun k => laws_markInt64SS.f k rows a) (a + (allLen rows : Int), upRows a rows) := by
  unfold laws_markInt64SS.f
  have key : ∀ d i : Nat, i + d = rows.length → Ev (fun k => laws_markInt64SS.l0 k ((List.range i).map (upRow a rows) ++ rows.drop i) (a + (preLen rows i : Int)) (i : Int)) (a + (allLen rows : Int), upRows a rows) := by
    intro d
    induction d with
    | zero =>
      intro i hi
      obtain rfl : i = rows.length := by omega
      refine Ev.step (f := fun _ => some (a + (allLen rows : Int), upRows a rows)) (fun k => ?_) (Ev.now _)
      simp only [laws_markInt64SS.l0]
      rw [if_neg (by simp), List.drop_length, List.append_nil, preLen_end]
      rfl
    | succ d ih =>
      intro i hi
      have hlt : i < rows.length := by omega
      have hp := preLen_succ rows i hlt
      have hp2 := preLen_le rows (i + 1)
      have hrow : rd_L1 ((List.range i).map (upRow a rows) ++ rows.drop i) (i : Int) = rows[i] := by
        rw [rdL_nat _ i (by simp; omega), List.getElem_append_right (by simp)]
        simp
      refine Ev.step (f := fun k => (laws_markInt64S.f k rows[i] (a + (preLen rows i : Int))).bind fun t => laws_markInt64SS.l0 k (((List.range i).map (upRow a rows) ++ rows.drop i).set i t.2) t.1 ((i + 1 : Nat) : Int)) (fun k => ?_) (Ev.bind (markInt64S_ev rows[i] _ (by omega) (by omega)) ?_)
      · simp only [laws_markInt64SS.l0]
        rw [if_pos (by simp; omega), if_pos (by omega), hrow, wr (by omega) (by omega), Int.toNat_natCast]
        rfl
      · have e : ((List.range i).map (upRow a rows) ++ rows.drop i).set i (upFrom (a + (preLen rows i : Int)) rows[i].length) = (List.range (i + 1)).map (upRow a rows) ++ rows.drop (i + 1) := by
          rw [List.set_append_right _ _ (by simp), List.length_map, List.length_range, Nat.sub_self, List.drop_eq_getElem_cons hlt, List.set_cons_zero, List.range_succ, List.map_append, List.append_assoc, ← upRow_eq a rows i hlt]
          rfl
        simp only [e]
        rw [show a + (preLen rows i : Int) + (rows[i].length : Int) = a + (preLen rows (i + 1) : Int) by omega]
        exact ih (i + 1) (by omega)
  have := key rows.length 0 (by omega)
  simpa [preLen] using this
theorem markMatrix_ev (p c : Int) (rows : List (List Int)) (a : Int) (ha : 0 ≤ a ∧ a ≤ 1073741824) (hl : rows.length ≤ 1073741824) (hs : allLen rows ≤ 1073741824) : Ev (fun k => laws_markMatrix.f k p c rows a) (a + (allLen rows : Int), upRows a rows) := by
  unfold laws_markMatrix.f
  exact markInt64SS_ev rows a ha hl hs
end Go.Proofs.Ytjpbemomocccaaa.P

namespace Go.Proofs.Ytjpbemomocccaaa.P
open Go.RowKit Go.Proofs.YtjpbemomocccaaaW.PrintWords Go.Proofs.YtjpbemomocccaaaW.PrintLast Go.Proofs.YtjpbemomocccaaaW.PrintMore
attribute [local go_sem] max2_int min2_int max_two min_two max_three min_three max_four min_four
set_option linter.unusedVariables false
set_option linter.unusedSimpArgs false

/-! ### spec_IsSpanned: function 25 -/
end Go.Proofs.Ytjpbemomocccaaa.P

namespace Go.Proofs.Ytjpbemomocccaaa.P
open Go.RowKit Go.Proofs.YtjpbemomocccaaaW.PrintWords Go.Proofs.YtjpbemomocccaaaW.PrintLast Go.Proofs.YtjpbemomocccaaaW.PrintMore
attribute [local go_sem] max2_int min2_int max_two min_two max_three min_three max_four min_four
set_option linter.unusedVariables false
set_option linter.unusedSimpArgs false

/-! ### spec_SolveFor: function 33 -/
end Go.Proofs.Ytjpbemomocccaaa.P

namespace Go.Proofs.Ytjpbemomocccaaa.P
open Go.RowKit Go.Proofs.YtjpbemomocccaaaW.PrintWords Go.Proofs.YtjpbemomocccaaaW.PrintLast Go.Proofs.YtjpbemomocccaaaW.PrintMore
attribute [local go_sem] max2_int min2_int max_two min_two max_three min_three max_four min_four
set_option linter.unusedVariables false
set_option linter.unusedSimpArgs false

/-! ### impl_copyRows: function 68 -/
end Go.Proofs.Ytjpbemomocccaaa.P

namespace Go.Proofs.Ytjpbemomocccaaa.P
open Go.RowKit Go.Proofs.YtjpbemomocccaaaW.PrintWords Go.Proofs.YtjpbemomocccaaaW.PrintLast Go.Proofs.YtjpbemomocccaaaW.PrintMore
attribute [local go_sem] max2_int min2_int max_two min_two max_three min_three max_four min_four
set_option linter.unusedVariables false
set_option linter.unusedSimpArgs false

/-! ### impl_Matrix_echelon: function 51 (by hand) -/
end Go.Proofs.Ytjpbemomocccaaa.P

namespace Go.Proofs.Ytjpbemomocccaaa.P
open Go.RowKit Go.Proofs.YtjpbemomocccaaaW.PrintWords Go.Proofs.YtjpbemomocccaaaW.PrintLast Go.Proofs.YtjpbemomocccaaaW.PrintMore
attribute [local go_sem] max2_int min2_int max_two min_two max_three min_three max_four min_four
set_option linter.unusedVariables false
set_option linter.unusedSimpArgs false

/-! ### impl_Matrix_solve: function 77 -/
end Go.Proofs.Ytjpbemomocccaaa.P

namespace Go.Proofs.Ytjpbemomocccaaa.P
open Go.RowKit Go.Proofs.YtjpbemomocccaaaW.PrintWords Go.Proofs.YtjpbemomocccaaaW.PrintLast Go.Proofs.YtjpbemomocccaaaW.PrintMore
attribute [local go_sem] max2_int min2_int max_two min_two max_three min_three max_four min_four
set_option linter.unusedVariables false
set_option linter.unusedSimpArgs false

/-! ### impl_SolveFor: function 34 -/
end Go.Proofs.Ytjpbemomocccaaa.P

namespace Go.Proofs.Ytjpbemomocccaaa.P
open Go.RowKit Go.Proofs.YtjpbemomocccaaaW.PrintWords Go.Proofs.YtjpbemomocccaaaW.PrintLast Go.Proofs.YtjpbemomocccaaaW.PrintMore
attribute [local go_sem] max2_int min2_int max_two min_two max_three min_three max_four min_four
set_option linter.unusedVariables false
set_option linter.unusedSimpArgs false

def grp (gs : List (List Int)) (i : Nat) : List Int := gs.getD i []
theorem rdL_grp (gs : List (List Int)) (i : Nat) (h : i < gs.length) : rd_L1 gs (i : Int) = grp gs i := by
  rw [rdL_nat gs i h]; simp [grp, h]
theorem grp_len {gs : List (List Int)} {m : Nat} (hr : ∀ r ∈ gs, r.length ≤ m) (i : Nat) : (grp gs i).length ≤ m := by
  unfold grp
  by_cases h : i < gs.length
  · rw [List.getD_eq_getElem?_getD, List.getElem?_eq_getElem h]; exact hr _ (List.getElem_mem h)
  · rw [List.getD_eq_getElem?_getD, List.getElem?_eq_none (by omega)]; exact Nat.zero_le _

end Go.Proofs.Ytjpbemomocccaaa.P

namespace Go.Proofs.Ytjpbemomocccaaa.P
open Go.RowKit Go.Proofs.YtjpbemomocccaaaW.PrintWords Go.Proofs.YtjpbemomocccaaaW.PrintLast Go.Proofs.YtjpbemomocccaaaW.PrintMore
attribute [local go_sem] max2_int min2_int max_two min_two max_three min_three max_four min_four
set_option linter.unusedVariables false
set_option linter.unusedSimpArgs false

/-- A row of a matrix: elements modulo p, as many as there are columns. -/
def rowB (p cols : Int) (r : List Int) : Bool := decide ((r.length : Int) = cols) && elemsB p r
def validMB (p cols : Int) (rows : List (List Int)) : Bool := primeB p && (decide (0 ≤ cols ∧ cols ≤ 12) && (decide (rows.length ≤ 20) && rows.all (rowB p cols)))
theorem spec_l03Row_ev (p cols : Int) (r : List Int) (hp : -1000 ≤ p ∧ p ≤ 1000) (hl : r.length ≤ 4611686018427387904) : Ev (fun k => spec_l03Row.f k p cols r) (rowB p cols r) := by
  unfold spec_l03Row.f
  have h := scan_ev (l := fun k i => spec_l03Row.l0 k p cols r i) (n := r.length) (q := fun i => decide (0 ≤ rd r i ∧ rd r i ≤ p - 1)) (fin := decide ((r.length : Int) = cols)) (stop := false)
    (fun i hi hq t ht => by
      refine Ev.step (fun k => ?_) ht
      simp only [spec_l03Row.l0]
      rw [if_pos (by omega), if_pos (by omega), wr (x := p - 1) (by omega) (by omega), spec_l00In_eq, wr (x := (i : Int) + 1) (by omega) (by omega)]
      simp only [Option.bind_some]
      rw [if_pos hq]
      rfl)
    (fun i hi hq => by
      refine Ev.step (f := fun _ => some false) (fun k => ?_) (Ev.now _)
      simp only [spec_l03Row.l0]
      rw [if_pos (by omega), if_pos (by omega), wr (x := p - 1) (by omega) (by omega), spec_l00In_eq]
      simp only [Option.bind_some]
      rw [if_neg (by rw [hq]; decide)])
    (by
      refine Ev.step (f := fun _ => some ((r.length : Int) == cols)) (fun k => ?_) ?_
      · simp only [spec_l03Row.l0]
        rw [if_neg (by omega)]
      · rw [show ((r.length : Int) == cols) = decide ((r.length : Int) = cols) from by by_cases e : (r.length : Int) = cols <;> simp [e]]
        exact Ev.now _)
  rw [range_all r (fun a => decide (0 ≤ a ∧ a ≤ p - 1)) _ (fun i hi => by simp only [rd_nat r i hi])] at h
  rw [show rowB p cols r = (if (r.all fun a => decide (0 ≤ a ∧ a ≤ p - 1)) then decide ((r.length : Int) = cols) else false) from by
    unfold rowB elemsB
    cases (r.all fun a => decide (0 ≤ a ∧ a ≤ p - 1)) <;> simp]
  exact h
theorem spec_l03Ok_ev (p cols : Int) (rows : List (List Int)) (hl : rows.length ≤ 4611686018427387904) (hr : ∀ r ∈ rows, r.length ≤ 4611686018427387904) : Ev (fun k => spec_l03Ok.f k p cols rows) (validMB p cols rows) := by
  unfold spec_l03Ok.f validMB
  refine Ev.bind (spec_IsPrime_ev p) ?_
  have stop : Ev (fun k => spec_l03Ok.j0 k true p cols rows) false :=
    Ev.step (f := fun _ => some false) (fun k => by simp only [spec_l03Ok.j0, if_true]) (Ev.now _)
  cases hp : primeB p with
  | false => exact stop
  | true =>
    have hpr := primeB_range hp
    simp only [if_true, spec_l00In_eq, Option.bind_some, Bool.true_and]
    cases hc : decide (0 ≤ cols ∧ cols ≤ 12) with
    | false => exact stop
    | true =>
      simp only [if_true, Bool.true_and]
      by_cases h20 : (rows.length : Int) > 20
      · rw [decide_eq_true h20, decide_eq_false (show ¬ rows.length ≤ 20 by omega), Bool.false_and]
        exact stop
      · rw [decide_eq_false h20, decide_eq_true (show rows.length ≤ 20 by omega), Bool.true_and]
        refine Ev.step (f := fun k => spec_l03Ok.l0 k 0 p cols rows) (fun k => by simp only [spec_l03Ok.j0]; rw [if_neg (by decide)]) ?_
        have h := scan_ev (l := fun k i => spec_l03Ok.l0 k i p cols rows) (n := rows.length) (q := fun i => rowB p cols (rd_L1 rows i)) (fin := true) (stop := false)
          (fun i hi hq t ht => by
            refine Ev.step (f := fun k => (spec_l03Row.f k p cols (rd_L1 rows i)).bind fun t => if t = true then spec_l03Ok.l0 k ((i + 1 : Nat) : Int) p cols rows else some false) (fun k => ?_) (Ev.bind (spec_l03Row_ev p cols _ (by omega) (by rw [rdL_nat rows i hi]; exact hr _ (List.getElem_mem hi))) ?_)
            · simp only [spec_l03Ok.l0]
              rw [if_pos (by omega), if_pos (by omega), wr (by omega) (by omega)]
              rfl
            · simp only [hq, if_true]
              exact ht)
          (fun i hi hq => by
            refine Ev.step (f := fun k => (spec_l03Row.f k p cols (rd_L1 rows i)).bind fun t => if t = true then spec_l03Ok.l0 k ((i + 1 : Nat) : Int) p cols rows else some false) (fun k => ?_) (Ev.bind (spec_l03Row_ev p cols _ (by omega) (by rw [rdL_nat rows i hi]; exact hr _ (List.getElem_mem hi))) ?_)
            · simp only [spec_l03Ok.l0]
              rw [if_pos (by omega), if_pos (by omega), wr (by omega) (by omega)]
              rfl
            · simp only [hq]
              exact Ev.now _)
          (Ev.step (f := fun _ => some true) (fun k => by simp only [spec_l03Ok.l0]; rw [if_neg (by omega)]) (Ev.now _))
        rw [range_all rows (rowB p cols) _ (fun i hi => by simp only [rdL_nat rows i hi])] at h
        rw [show rows.all (rowB p cols) = (if rows.all (rowB p cols) then true else false) from by cases rows.all (rowB p cols) <;> rfl]
        exact h
theorem idxR_ev (p : Nat → List Int → Option Bool) (q : List Int → Bool) (xs : List (List Int)) (hlen : xs.length ≤ 4611686018427387904) (hp : ∀ x ∈ xs, Ev (fun k => p k x) (q x)) (hm : ∀ x k, LeO (p k x) (p (k + 1) x)) :
    ∀ d i : Nat, i + d = xs.length → ∃ r : Int, Ev (fun k => idxR.l0 k (p k) xs (i : Int)) r ∧ decide (0 ≤ r) = (xs.drop i).any q := by
  have up : ∀ {r : Int} {i : Int}, Ev (fun k => idxR.l0 k (p k) xs i) r → Ev (fun k => idxR.l0 k (p (k + 1)) xs i) r := by
    rintro r i ⟨K, h⟩
    exact ⟨K, fun k hk => idxR.mono_p _ _ _ _ _ (fun x => hm x k) r (h k hk)⟩
  have one : ∀ x ∈ xs, Ev (fun k => p (k + 1) x) (q x) := fun x hx => by
    obtain ⟨K, h⟩ := hp x hx
    exact ⟨K, fun k hk => h (k + 1) (by omega)⟩
  intro d
  induction d with
  | zero =>
    intro i hi
    refine ⟨-1, Ev.step (f := fun _ => some (-1)) (fun k => ?_) (Ev.now _), ?_⟩
    · simp only [idxR.l0]
      rw [if_neg (by omega)]
    · rw [List.drop_eq_nil_of_le (by omega)]; rfl
  | succ d ih =>
    intro i hi
    have hlt : i < xs.length := by omega
    obtain ⟨r, hr, hd⟩ := ih (i + 1) (by omega)
    have hx := one _ (List.getElem_mem hlt)
    rw [List.drop_eq_getElem_cons hlt, List.any_cons]
    have step : ∀ {r : Int}, Ev (fun k => (p (k + 1) xs[i]).bind fun t => if t = true then some (i : Int) else idxR.l0 k (p (k + 1)) xs ((i + 1 : Nat) : Int)) r → Ev (fun k => idxR.l0 k (p k) xs (i : Int)) r := fun h => by
      refine Ev.step (g := fun k => idxR.l0 k (p k) xs (i : Int)) (fun k => ?_) h
      simp only [idxR.l0]
      rw [if_pos (by omega), if_pos (by omega), rdL_nat xs i hlt, wr (by omega) (by omega)]
      rfl
    cases hq : q xs[i] with
    | true =>
      refine ⟨i, step (Ev.bind hx ?_), ?_⟩
      · simp only [hq, if_true]; exact Ev.now _
      · rw [Bool.true_or]; exact decide_eq_true (by omega)
    | false =>
      refine ⟨r, step (Ev.bind hx ?_), ?_⟩
      · simp only [hq]; exact up hr
      · rw [Bool.false_or]; exact hd
theorem hasR_ev (p : Nat → List Int → Option Bool) (q : List Int → Bool) (xs : List (List Int)) (hlen : xs.length ≤ 4611686018427387904) (hp : ∀ x ∈ xs, Ev (fun k => p k x) (q x)) (hm : ∀ x k, LeO (p k x) (p (k + 1) x)) : Ev (fun k => hasR.f k (p k) xs) (xs.any q) := by
  obtain ⟨r, hr, hd⟩ := idxR_ev p q xs hlen hp hm xs.length 0 (by omega)
  rw [List.drop_zero] at hd
  rw [← hd]
  exact Ev.bind hr (Ev.now _)
theorem not_any_all {α : Type} (l : List α) (q : α → Bool) : (!(l.any fun a => !q a)) = l.all q := by
  induction l with
  | nil => rfl
  | cons a l ih => rw [List.any_cons, List.all_cons, ← ih, Bool.not_or, Bool.not_not]
theorem impl_ValidMatrix_ev (p cols : Int) (rows : List (List Int)) (hl : rows.length ≤ 4611686018427387904) (hr : ∀ r ∈ rows, r.length ≤ 4611686018427387904) : Ev (fun k => impl_ValidMatrix.f k p cols rows) (validMB p cols rows) := by
  unfold impl_ValidMatrix.f validMB
  refine Ev.bind (impl_IsPrime_ev p) ?_
  cases hp : primeB p with
  | false => exact Ev.now _
  | true =>
    simp only [if_true, impl_within_eq, Option.bind_some, Bool.true_and]
    cases hc : decide (0 ≤ cols ∧ cols ≤ 12) with
    | false => exact Ev.now _
    | true =>
      simp only [if_true, Bool.true_and]
      by_cases h20 : (rows.length : Int) ≤ 20
      · rw [decide_eq_true (show rows.length ≤ 20 by omega), Bool.true_and, ← not_any_all]
        simp only [if_pos h20]
        refine Ev.bind (hasR_ev (fun k => ValidMatrix_p k p cols) (fun r => !rowB p cols r) rows hl (fun r hrm => ?_) (fun x k => ValidMatrix_p.mono _ _ _ _)) (Ev.now _)
        unfold ValidMatrix_p rowB
        by_cases e : (r.length : Int) = cols
        · simp only [if_pos e, decide_eq_true e, Bool.true_and]
          have := impl_areElements_ev p r (hr r hrm)
          rw [hp, Bool.true_and] at this
          exact Ev.bind this (Ev.now _)
        · simp only [if_neg e, decide_eq_false e, Bool.false_and]
          exact Ev.now _
      · rw [decide_eq_false (show ¬ rows.length ≤ 20 by omega), Bool.false_and]
        simp only [if_neg h20]
        exact Ev.now _

end Go.Proofs.Ytjpbemomocccaaa.P

namespace Go.Proofs.Ytjpbemomocccaaa.P
open Go.RowKit Go.Proofs.YtjpbemomocccaaaW.PrintWords Go.Proofs.YtjpbemomocccaaaW.PrintLast Go.Proofs.YtjpbemomocccaaaW.PrintMore
attribute [local go_sem] max2_int min2_int max_two min_two max_three min_three max_four min_four
set_option linter.unusedVariables false
set_option linter.unusedSimpArgs false

/-- A loop that puts one value after another behind a list. -/
theorem build_ev {α ρ : Type} {l : Nat → Int → List α → Option ρ} (n : Nat) (f : Nat → α) {fin : ρ}
    (hgo : ∀ (i : Nat) (acc : List α), i < n → acc.length = i → ∀ r, Ev (fun k => l k ((i + 1 : Nat) : Int) (acc ++ [f i])) r → Ev (fun k => l k (i : Int) acc) r)
    (hend : Ev (fun k => l k (n : Int) ((List.range n).map f)) fin) : Ev (fun k => l k 0 []) fin := by
  have key : ∀ d i : Nat, i + d = n → Ev (fun k => l k (i : Int) ((List.range i).map f)) fin := by
    intro d
    induction d with
    | zero =>
      intro i hi
      obtain rfl : i = n := by omega
      exact hend
    | succ d ih =>
      intro i hi
      refine hgo i _ (by omega) (by simp) _ ?_
      have := ih (i + 1) (by omega)
      rwa [List.range_succ, List.map_append] at this
  exact key n 0 (by omega)
theorem elemsB_get {p : Int} {l : List Int} (h : elemsB p l = true) (i : Nat) (hi : i < l.length) : 0 ≤ l[i] ∧ l[i] ≤ p - 1 := by
  unfold elemsB at h
  exact of_decide_eq_true (List.all_eq_true.mp h _ (List.getElem_mem hi))
end Go.Proofs.Ytjpbemomocccaaa.P

namespace Go.Proofs.Ytjpbemomocccaaa.P
open Go.RowKit Go.Proofs.YtjpbemomocccaaaW.PrintWords Go.Proofs.YtjpbemomocccaaaW.PrintLast Go.Proofs.YtjpbemomocccaaaW.PrintMore
attribute [local go_sem] max2_int min2_int max_two min_two max_three min_three max_four min_four
set_option linter.unusedVariables false
set_option linter.unusedSimpArgs false

theorem rd_cast (xs : List Int) (i : Nat) : rd xs (i : Int) = xs.getD i 0 := by simp [rd]
theorem rdL_cast (gs : List (List Int)) (i : Nat) : rd_L1 gs (i : Int) = grp gs i := by simp [rd_L1, grp]
theorem getD_set {α : Type} (l : List α) (i j : Nat) (v d : α) (hi : i < l.length) : (l.set i v).getD j d = if j = i then v else l.getD j d := by
  rw [List.getD_eq_getElem?_getD, List.getD_eq_getElem?_getD, List.getElem?_set]
  by_cases h : j = i
  · subst h; rw [if_pos rfl, if_pos rfl, if_pos hi]; rfl
  · rw [if_neg (Ne.symm h), if_neg h]
theorem getD_map {α : Type} (n : Nat) (f : Nat → α) (j : Nat) (d : α) (hj : j < n) : ((List.range n).map f).getD j d = f j := by
  rw [List.getD_eq_getElem?_getD, List.getElem?_map, List.getElem?_range hj]; rfl
theorem list_of_getD {α : Type} (l : List α) (d : α) : (List.range l.length).map (fun j => l.getD j d) = l := by
  refine List.ext_getElem (by simp) fun i h1 h2 => ?_
  have : i < l.length := h2
  simp [List.getD_eq_getElem?_getD, this]
theorem list_eq_getD {α : Type} (d : α) {a b : List α} (hl : a.length = b.length) (h : ∀ i, i < a.length → a.getD i d = b.getD i d) : a = b := by
  refine List.ext_getElem hl fun i h1 h2 => ?_
  have := h i h1
  rwa [List.getD_eq_getElem?_getD, List.getD_eq_getElem?_getD, List.getElem?_eq_getElem h1, List.getElem?_eq_getElem h2] at this
/-- A loop that sets one place of a list after another. -/
theorem setloop_ev {α : Type} (d : α) {l : Nat → Int → List α → Option (List α)} (ys : List α) (f : Nat → α → α)
    (hgo : ∀ (i : Nat) (xs : List α), i < ys.length → xs.length = ys.length → (∀ j, j < ys.length → xs.getD j d = if j < i then f j (ys.getD j d) else ys.getD j d) → ∀ r, Ev (fun k => l k ((i + 1 : Nat) : Int) (xs.set i (f i (ys.getD i d)))) r → Ev (fun k => l k (i : Int) xs) r)
    (hend : ∀ xs, xs.length = ys.length → Ev (fun k => l k (ys.length : Int) xs) xs) : Ev (fun k => l k 0 ys) ((List.range ys.length).map fun j => f j (ys.getD j d)) := by
  have key : ∀ m i : Nat, i + m = ys.length → ∀ xs : List α, xs.length = ys.length → (∀ j, j < ys.length → xs.getD j d = if j < i then f j (ys.getD j d) else ys.getD j d) → Ev (fun k => l k (i : Int) xs) ((List.range ys.length).map fun j => f j (ys.getD j d)) := by
    intro m
    induction m with
    | zero =>
      intro i hi xs hx hj
      obtain rfl : i = ys.length := by omega
      have e : xs = (List.range ys.length).map fun j => f j (ys.getD j d) := by
        refine list_eq_getD d (by simp [hx]) fun j hjx => ?_
        rw [getD_map _ _ _ _ (by omega), hj j (by omega), if_pos (by omega)]
      have := hend xs hx
      rw [← e]
      exact this
    | succ m ih =>
      intro i hi xs hx hj
      refine hgo i xs (by omega) hx hj _ (ih (i + 1) (by omega) _ (by rw [List.length_set]; exact hx) fun j hjl => ?_)
      rw [getD_set _ _ _ _ _ (by omega)]
      by_cases h1 : j = i
      · subst h1; rw [if_pos rfl, if_pos (by omega)]
      · rw [if_neg h1, hj j hjl]
        by_cases h2 : j < i
        · rw [if_pos h2, if_pos (by omega)]
        · rw [if_neg h2, if_neg (by omega)]
  exact key ys.length 0 (by omega) ys rfl fun j _ => by rw [if_neg (by omega)]
/-- A list of C elements modulo p. -/
def RowP (p : Int) (C : Nat) (r : List Int) : Prop := r.length = C ∧ ∀ j, 0 ≤ r.getD j 0 ∧ r.getD j 0 ≤ p - 1
def MatP (p : Int) (C : Nat) (rows : List (List Int)) : Prop := ∀ i, i < rows.length → RowP p C (grp rows i)
theorem mod_range {p : Int} (hp : 2 ≤ p) (x : Int) : 0 ≤ x % p ∧ x % p ≤ p - 1 := ⟨Int.emod_nonneg _ (by omega), by have := Int.emod_lt_of_pos x (b := p) (by omega); omega⟩
theorem RowP_map {p : Int} (hp : 2 ≤ p) (C : Nat) (f : Nat → Int) (hf : ∀ j, j < C → 0 ≤ f j ∧ f j ≤ p - 1) : RowP p C ((List.range C).map f) := by
  refine ⟨by simp, fun j => ?_⟩
  by_cases h : j < C
  · rw [getD_map _ _ _ _ h]; exact hf j h
  · rw [List.getD_eq_getElem?_getD, List.getElem?_eq_none (by simp; omega)]
    show 0 ≤ (0 : Int) ∧ (0 : Int) ≤ p - 1
    omega
def timesB (p by_ : Int) (r : List Int) : List Int := (List.range r.length).map fun j => r.getD j 0 * by_ % p
def addB (p : Int) (u row : List Int) (t : Int) : List Int := (List.range u.length).map fun j => (u.getD j 0 + row.getD j 0 * t) % p
theorem timesB_row {p by_ : Int} {C : Nat} {r : List Int} (hp : 2 ≤ p) (h : RowP p C r) : RowP p C (timesB p by_ r) := by
  unfold timesB; rw [h.1]; exact RowP_map hp C _ fun j _ => mod_range hp _
theorem addB_row {p t : Int} {C : Nat} {r s : List Int} (hp : 2 ≤ p) (h : RowP p C r) : RowP p C (addB p r s t) := by
  unfold addB; rw [h.1]; exact RowP_map hp C _ fun j _ => mod_range hp _
theorem mul_le31 {p a b : Int} (hp : 2 ≤ p ∧ p ≤ 31) (ha : 0 ≤ a ∧ a ≤ p - 1) (hb : 0 ≤ b ∧ b ≤ p) : 0 ≤ a * b ∧ a * b ≤ 1000 := by
  refine ⟨Int.mul_nonneg ha.1 hb.1, ?_⟩
  have h1 : a * b ≤ 30 * b := Int.mul_le_mul_of_nonneg_right (by omega) hb.1
  omega
theorem impl_scaled_ev {p by_ : Int} {C : Nat} {r : List Int} (hp : 2 ≤ p ∧ p ≤ 31) (hC : C ≤ 1000) (h : RowP p C r) (hb : 0 ≤ by_ ∧ by_ ≤ p) : Ev (fun k => impl_scaled.f k p r by_) (timesB p by_ r) := by
  unfold impl_scaled.f timesB
  refine setloop_ev (0 : Int) (l := fun k i xs => impl_scaled.l0 k p xs by_ (r.length : Int) i) r (fun _ x => x * by_ % p) (fun i xs hi hx hj t ht => ?_) (fun xs hx => ?_)
  · have hl := h.1
    refine Ev.step (fun k => ?_) ht
    have hm := mul_le31 hp (h.2 i) hb
    have e := hj i hi
    rw [if_neg (by omega)] at e
    simp only [impl_scaled.l0]
    rw [if_pos (by omega), if_pos (by omega), if_pos (by omega), if_neg (by omega), rd_cast, e, wr (by omega) (by omega), Int.tmod_eq_emod_of_nonneg hm.1, wr (by omega) (by omega)]
    rfl
  · refine Ev.step (f := fun _ => some xs) (fun k => ?_) (Ev.now _)
    simp only [impl_scaled.l0]
    rw [if_neg (by omega)]
theorem spec_l03Times_ev {p by_ : Int} {C : Nat} {r : List Int} (hp : 2 ≤ p ∧ p ≤ 31) (hC : C ≤ 1000) (h : RowP p C r) (hb : 0 ≤ by_ ∧ by_ ≤ p) : Ev (fun k => spec_l03Times.f k p r by_) (timesB p by_ r) := by
  unfold spec_l03Times.f timesB
  refine setloop_ev (0 : Int) (l := fun k i xs => spec_l03Times.l0 k p xs by_ i) r (fun _ x => x * by_ % p) (fun i xs hi hx hj t ht => ?_) (fun xs hx => ?_)
  · have hl := h.1
    refine Ev.step (fun k => ?_) ht
    have hm := mul_le31 hp (h.2 i) hb
    have e := hj i hi
    rw [if_neg (by omega)] at e
    simp only [spec_l03Times.l0]
    rw [if_pos (by omega), if_pos (by omega), if_neg (by omega), rd_cast, e, wr (by omega) (by omega), Int.tmod_eq_emod_of_nonneg hm.1, wr (by omega) (by omega)]
    rfl
  · refine Ev.step (f := fun _ => some xs) (fun k => ?_) (Ev.now _)
    simp only [spec_l03Times.l0]
    rw [if_neg (by omega)]
theorem impl_takeOff_ev {p t : Int} {C : Nat} {r s : List Int} (hp : 2 ≤ p ∧ p ≤ 31) (hC : C ≤ 1000) (h : RowP p C r) (hs : RowP p C s) (ht : 0 ≤ t ∧ t ≤ p) : Ev (fun k => impl_takeOff.f k p r s t) (addB p r s (p - t)) := by
  unfold impl_takeOff.f addB
  have hl := h.1
  have hsl := hs.1
  refine setloop_ev (0 : Int) (l := fun k i xs => impl_takeOff.l0 k p xs t s (s.length : Int) i) r (fun j x => (x + s.getD j 0 * (p - t)) % p) (fun i xs hi hx hj q hq => ?_) (fun xs hx => ?_)
  · refine Ev.step (fun k => ?_) hq
    have hm := mul_le31 hp (hs.2 i) (b := p - t) (by omega)
    have hr := h.2 i
    have e := hj i hi
    rw [if_neg (by omega)] at e
    simp only [impl_takeOff.l0]
    rw [if_pos (by omega), if_pos (by omega), if_pos (by omega), if_pos (by omega), if_neg (by omega), rd_cast, rd_cast, e, wr (x := p - t) (by omega) (by omega), Int.mul_comm (p - t), wr (x := s.getD i 0 * (p - t)) (by omega) (by omega), wr (x := r.getD i 0 + _) (by omega) (by omega), Int.tmod_eq_emod_of_nonneg (by omega), wr (by omega) (by omega)]
    rfl
  · refine Ev.step (f := fun _ => some xs) (fun k => ?_) (Ev.now _)
    simp only [impl_takeOff.l0]
    rw [if_neg (by omega)]
theorem spec_l03Add_ev {p t : Int} {C : Nat} {r s : List Int} (hp : 2 ≤ p ∧ p ≤ 31) (hC : C ≤ 1000) (h : RowP p C r) (hs : RowP p C s) (ht : 0 ≤ t ∧ t ≤ p) : Ev (fun k => spec_l03Add.f k p r s t) (addB p r s t) := by
  unfold spec_l03Add.f addB
  have hl := h.1
  have hsl := hs.1
  refine setloop_ev (0 : Int) (l := fun k i xs => spec_l03Add.l0 k p xs s t i) r (fun j x => (x + s.getD j 0 * t) % p) (fun i xs hi hx hj q hq => ?_) (fun xs hx => ?_)
  · refine Ev.step (fun k => ?_) hq
    have hm := mul_le31 hp (hs.2 i) (b := t) (by omega)
    have hr := h.2 i
    have e := hj i hi
    rw [if_neg (by omega)] at e
    simp only [spec_l03Add.l0]
    rw [if_pos (by omega), if_pos (by omega), if_pos (by omega), if_neg (by omega), rd_cast, rd_cast, e, wr (x := s.getD i 0 * t) (by omega) (by omega), wr (x := r.getD i 0 + _) (by omega) (by omega), Int.tmod_eq_emod_of_nonneg (by omega), wr (by omega) (by omega)]
    rfl
  · refine Ev.step (f := fun _ => some xs) (fun k => ?_) (Ev.now _)
    simp only [spec_l03Add.l0]
    rw [if_neg (by omega)]
/-- The first row from a on whose element c is not 0; the number of rows where there is none. -/
def findN (rows : List (List Int)) (c a : Nat) : Nat := a + (rows.drop a).findIdx (fun r => r.getD c 0 != 0)
theorem findN_here {rows : List (List Int)} {c a : Nat} (ha : a < rows.length) (h : (grp rows a).getD c 0 ≠ 0) : findN rows c a = a := by
  unfold findN
  rw [List.drop_eq_getElem_cons ha, List.findIdx_cons]
  have : (rows[a].getD c 0 != 0) = true := by rw [show rows[a] = grp rows a from by simp [grp, ha]]; exact bne_iff_ne.mpr h
  rw [this]; rfl
theorem findN_next {rows : List (List Int)} {c a : Nat} (ha : a < rows.length) (h : (grp rows a).getD c 0 = 0) : findN rows c a = findN rows c (a + 1) := by
  unfold findN
  rw [List.drop_eq_getElem_cons ha, List.findIdx_cons]
  have : (rows[a].getD c 0 != 0) = false := by rw [show rows[a] = grp rows a from by simp [grp, ha], h]; rfl
  rw [this]
  simp only [cond_false]
  omega
theorem findN_end {rows : List (List Int)} {c a : Nat} (ha : rows.length ≤ a) : findN rows c a = a := by
  unfold findN
  rw [List.drop_eq_nil_of_le ha]; rfl
theorem findN_le {rows : List (List Int)} {c : Nat} : ∀ (d a : Nat), a + d = rows.length → a ≤ findN rows c a ∧ findN rows c a ≤ rows.length ∧ (findN rows c a < rows.length → (grp rows (findN rows c a)).getD c 0 ≠ 0) ∧ ∀ j, a ≤ j → j < findN rows c a → (grp rows j).getD c 0 = 0 := by
  intro d
  induction d with
  | zero =>
    intro a ha
    rw [findN_end (by omega)]
    exact ⟨Nat.le_refl _, by omega, fun h => by omega, fun j h1 h2 => by omega⟩
  | succ d ih =>
    intro a ha
    by_cases h : (grp rows a).getD c 0 = 0
    · rw [findN_next (by omega) h]
      obtain ⟨h1, h2, h3, h4⟩ := ih (a + 1) (by omega)
      refine ⟨by omega, h2, h3, fun j hj hj2 => ?_⟩
      by_cases e : j = a
      · rw [e]; exact h
      · exact h4 j (by omega) hj2
    · rw [findN_here (by omega) h]
      exact ⟨Nat.le_refl _, by omega, fun _ => h, fun j h1 h2 => by omega⟩
theorem findB_ev {p : Int} {C c : Nat} {rows : List (List Int)} (hM : MatP p C rows) (hc : c < C) (hl : rows.length ≤ 1000) : ∀ (d a : Nat), a + d = rows.length → Ev (fun k => findB k rows (c : Int) (a : Int)) ((findN rows c a : Nat) : Int) := by
  intro d
  induction d with
  | zero =>
    intro a ha
    rw [findN_end (by omega)]
    refine Ev.step (f := fun _ => some (a : Int)) (fun k => ?_) (Ev.now _)
    simp only [findB]
    rw [if_neg (by omega)]
  | succ d ih =>
    intro a ha
    have hr := (hM a (by omega)).1
    by_cases h : (grp rows a).getD c 0 = 0
    · rw [findN_next (by omega) h]
      refine Ev.step (fun k => ?_) (ih (a + 1) (by omega))
      simp only [findB]
      rw [if_pos (by omega), if_pos (by omega), if_pos (by omega), rdL_cast, if_pos (by omega), rd_cast, if_pos h, wr (by omega) (by omega)]
      rfl
    · rw [findN_here (by omega) h]
      refine Ev.step (f := fun _ => some (a : Int)) (fun k => ?_) (Ev.now _)
      simp only [findB]
      rw [if_pos (by omega), if_pos (by omega), if_pos (by omega), rdL_cast, if_pos (by omega), rd_cast, if_neg h]
theorem swapB_grp {rows : List (List Int)} {n a : Nat} (hn : n < rows.length) (ha : a < rows.length) (j : Nat) : grp (swapB rows n a) j = if j = a then grp rows n else if j = n then grp rows a else grp rows j := by
  unfold swapB grp
  rw [getD_set _ _ _ _ _ (by rw [List.length_set]; exact ha), getD_set _ _ _ _ _ hn, rdL_cast, rdL_cast]
  rfl
theorem swapB_length (rows : List (List Int)) (n a : Nat) : (swapB rows n a).length = rows.length := by simp [swapB]
theorem swapB_comm {rows : List (List Int)} {n a : Nat} (hn : n < rows.length) (ha : a < rows.length) : swapB rows a n = swapB rows n a := by
  refine list_eq_getD [] (by simp [swapB]) fun j _ => ?_
  show grp (swapB rows a n) j = grp (swapB rows n a) j
  rw [swapB_grp ha hn, swapB_grp hn ha]
  by_cases h1 : j = n
  · subst h1
    by_cases h2 : j = a
    · subst h2; rfl
    · rw [if_pos rfl, if_neg h2, if_pos rfl]
  · by_cases h2 : j = a
    · subst h2; rw [if_neg h1, if_pos rfl, if_pos rfl]
    · rw [if_neg h1, if_neg h2, if_neg h2, if_neg h1]
def elimB (p : Int) (c n : Nat) (rows : List (List Int)) : List (List Int) := (List.range rows.length).map fun i => if i = n then grp rows i else addB p (grp rows i) (grp rows n) (p - (grp rows i).getD c 0)
theorem addB_p {p : Int} {C : Nat} {r s : List Int} (hp : 2 ≤ p) (h : RowP p C r) : addB p r s p = r := by
  refine list_eq_getD 0 (by simp [addB]) fun j hj => ?_
  unfold addB
  rw [getD_map _ _ _ _ (by simpa [addB] using hj), Int.add_mul_emod_self_right]
  have := h.2 j
  exact Int.emod_eq_of_lt this.1 (by omega)
theorem spec_elim_ev {p : Int} {C c n : Nat} {rows : List (List Int)} (hp : 2 ≤ p ∧ p ≤ 31) (hC : C ≤ 1000) (hl : rows.length ≤ 1000) (hM : MatP p C rows) (hc : c < C) (hn : n < rows.length) :
    Ev (fun k => spec_l03Echelon.l2 k p (c : Int) (n : Int) rows 0) (elimB p c n rows) := by
  unfold elimB
  refine setloop_ev ([] : List Int) (l := fun k i xs => spec_l03Echelon.l2 k p (c : Int) (n : Int) xs i) rows (fun i x => if i = n then x else addB p x (grp rows n) (p - x.getD c 0)) (fun i xs hi hx hj q hq => ?_) (fun xs hx => ?_)
  · have hr := hM i hi
    have hrn := hM n hn
    have e : grp xs i = grp rows i := by
      have := hj i hi
      rw [if_neg (by omega)] at this
      exact this
    have en : grp xs n = grp rows n := by
      have h2 := hj n hn
      have h3 : (if n < i then (if n = n then rows.getD n [] else addB p (rows.getD n []) (grp rows n) (p - (rows.getD n []).getD c 0)) else rows.getD n []) = rows.getD n [] := by split <;> simp
      exact h2.trans h3
    have same : ∀ v, v = grp rows i → xs.set i v = xs := by
      rintro v rfl
      refine list_eq_getD [] (by simp) fun j _ => ?_
      rw [getD_set _ _ _ _ _ (by omega)]
      by_cases h1 : j = i
      · subst h1; rw [if_pos rfl]; exact e.symm
      · rw [if_neg h1]
    by_cases hin : i = n
    · subst hin
      rw [same _ (by rw [if_pos rfl]; rfl)] at hq
      refine Ev.step (fun k => ?_) hq
      simp only [spec_l03Echelon.l2]
      rw [if_pos (by omega), if_pos (by omega), if_pos trivial, wr (by omega) (by omega)]
      rfl
    · have h1 := hr.1
      by_cases h0 : (grp rows i).getD c 0 = 0
      · rw [same _ (by rw [if_neg hin]; show addB p (grp rows i) (grp rows n) (p - (grp rows i).getD c 0) = _; rw [h0, Int.sub_zero]; exact addB_p hp.1 hr)] at hq
        refine Ev.step (fun k => ?_) hq
        simp only [spec_l03Echelon.l2]
        rw [if_pos (by omega), if_pos (by omega), if_neg (by omega), if_pos (by omega), rdL_cast, e, if_pos (by omega), rd_cast, if_pos h0, wr (by omega) (by omega)]
        rfl
      · refine Ev.step (f := fun k => (spec_l03Add.f k p (grp rows i) (grp rows n) (p - (grp rows i).getD c 0)).bind fun t => spec_l03Echelon.l2 k p (c : Int) (n : Int) (xs.set i t) ((i + 1 : Nat) : Int)) (fun k => ?_) (Ev.bind (spec_l03Add_ev hp hC hr hrn (by have := hr.2 c; omega)) ?_)
        · have h2 := hr.2 c
          simp only [spec_l03Echelon.l2]
          rw [if_pos (by omega), if_pos (by omega), if_neg (by omega), if_pos (by omega), rdL_cast, rdL_cast, e, en, if_pos (by omega), rd_cast, if_neg h0, if_pos (by omega), if_pos (by omega), wr (x := p - _) (by omega) (by omega), wr (by omega) (by omega)]
          rfl
        · rw [if_neg hin] at hq
          exact hq
  · refine Ev.step (f := fun _ => some xs) (fun k => ?_) (Ev.now _)
    simp only [spec_l03Echelon.l2]
    rw [if_neg (by omega)]

end Go.Proofs.Ytjpbemomocccaaa.P

namespace Go.Proofs.Ytjpbemomocccaaa.P
open Go.RowKit Go.Proofs.YtjpbemomocccaaaW.PrintWords Go.Proofs.YtjpbemomocccaaaW.PrintLast Go.Proofs.YtjpbemomocccaaaW.PrintMore
attribute [local go_sem] max2_int min2_int max_two min_two max_three min_three max_four min_four
set_option linter.unusedVariables false
set_option linter.unusedSimpArgs false

/-! ### spec_EchelonOf: function 13 -/
end Go.Proofs.Ytjpbemomocccaaa.P

namespace Go.Proofs.Ytjpbemomocccaaa.P
open Go.RowKit Go.Proofs.YtjpbemomocccaaaW.PrintWords Go.Proofs.YtjpbemomocccaaaW.PrintLast Go.Proofs.YtjpbemomocccaaaW.PrintMore
attribute [local go_sem] max2_int min2_int max_two min_two max_three min_three max_four min_four
set_option linter.unusedVariables false
set_option linter.unusedSimpArgs false

/-! ### impl_EchelonOf: function 15 -/
end Go.Proofs.Ytjpbemomocccaaa.P

namespace Go.Proofs.Ytjpbemomocccaaa.P
open Go.RowKit Go.Proofs.YtjpbemomocccaaaW.PrintWords Go.Proofs.YtjpbemomocccaaaW.PrintLast Go.Proofs.YtjpbemomocccaaaW.PrintMore
attribute [local go_sem] max2_int min2_int max_two min_two max_three min_three max_four min_four
set_option linter.unusedVariables false
set_option linter.unusedSimpArgs false

/-! ### spec_l03Told: function 55 -/
end Go.Proofs.Ytjpbemomocccaaa.P

namespace Go.Proofs.Ytjpbemomocccaaa.P
open Go.RowKit Go.Proofs.YtjpbemomocccaaaW.PrintWords Go.Proofs.YtjpbemomocccaaaW.PrintLast Go.Proofs.YtjpbemomocccaaaW.PrintMore
attribute [local go_sem] max2_int min2_int max_two min_two max_three min_three max_four min_four
set_option linter.unusedVariables false
set_option linter.unusedSimpArgs false

/-! ### impl_matrixOrLimit: function 57 -/
end Go.Proofs.Ytjpbemomocccaaa.P

namespace Go.Proofs.Ytjpbemomocccaaa.P
open Go.RowKit Go.Proofs.YtjpbemomocccaaaW.PrintWords Go.Proofs.YtjpbemomocccaaaW.PrintLast Go.Proofs.YtjpbemomocccaaaW.PrintMore
attribute [local go_sem] max2_int min2_int max_two min_two max_three min_three max_four min_four
set_option linter.unusedVariables false
set_option linter.unusedSimpArgs false

/-- The columns of a matrix. -/
def colB (rows : List (List Int)) (c : Nat) : List Int := (List.range rows.length).map fun i => (grp rows i).getD c 0
def turnB (cols : Nat) (rows : List (List Int)) : List (List Int) := (List.range cols).map (colB rows)
theorem validMB_parts {p cols : Int} {rows : List (List Int)} (h : validMB p cols rows = true) : (2 ≤ p ∧ p ≤ 31) ∧ (0 ≤ cols ∧ cols ≤ 12) ∧ rows.length ≤ 20 ∧ (∀ i, i < rows.length → ((grp rows i).length : Int) = cols ∧ elemsB p (grp rows i) = true) := by
  unfold validMB at h
  simp only [Bool.and_eq_true, decide_eq_true_eq] at h
  refine ⟨primeB_range h.1, h.2.1, h.2.2.1, fun i hi => ?_⟩
  have := List.all_eq_true.mp h.2.2.2 rows[i] (List.getElem_mem hi)
  unfold rowB at this
  simp only [Bool.and_eq_true, decide_eq_true_eq] at this
  rw [show grp rows i = rows[i] from by simp [grp, hi]]
  exact this
theorem turnB_length (cols : Nat) (rows : List (List Int)) : (turnB cols rows).length = cols := by simp [turnB]
theorem spec_l03Turned_ev (p cols : Int) (rows : List (List Int)) (hc : 0 ≤ cols ∧ cols ≤ 12) (hl : rows.length ≤ 20) (hrow : ∀ i, i < rows.length → ((grp rows i).length : Int) = cols) : Ev (fun k => spec_l03Turned.f k p cols rows) (p, (rows.length : Int), turnB cols.toNat rows) := by
  unfold spec_l03Turned.f
  refine build_ev (l := fun k i acc => spec_l03Turned.l0 k i p cols rows p (rows.length : Int) acc) cols.toNat (colB rows) (fun i acc hi ha r hr => ?_) ?_
  · refine Ev.step (f := fun k => spec_l03Turned.l1 k (i : Int) [] 0 p cols rows p (rows.length : Int) acc) (fun k => ?_) ?_
    · simp only [spec_l03Turned.l0]
      rw [if_pos (by omega)]
    · refine build_ev (l := fun k j row => spec_l03Turned.l1 k (i : Int) row j p cols rows p (rows.length : Int) acc) rows.length (fun j => (grp rows j).getD i 0) (fun j row hj hrl r' hr' => ?_) ?_
      · have hlen := hrow j hj
        refine Ev.step (fun k => ?_) hr'
        simp only [spec_l03Turned.l1]
        rw [if_pos (by omega), if_pos (by omega), if_pos (by omega), rdL_grp rows j hj, if_pos (by omega), if_pos (by omega), rd_nat _ i (by omega), wr (by omega) (by omega), show (grp rows j).getD i 0 = (grp rows j)[i]'(by omega) from by rw [List.getD_eq_getElem?_getD, List.getElem?_eq_getElem (by omega)]; rfl]
        rfl
      · refine Ev.step (fun k => ?_) hr
        simp only [spec_l03Turned.l1]
        rw [if_neg (by omega), if_pos (by omega), wr (by omega) (by omega)]
        rfl
  · refine Ev.step (f := fun _ => some (p, (rows.length : Int), turnB cols.toNat rows)) (fun k => ?_) (Ev.now _)
    simp only [spec_l03Turned.l0]
    rw [if_neg (by omega)]
    rfl
end Go.Proofs.Ytjpbemomocccaaa.P

namespace Go.Proofs.Ytjpbemomocccaaa.P
open Go.RowKit Go.Proofs.YtjpbemomocccaaaW.PrintWords Go.Proofs.YtjpbemomocccaaaW.PrintLast Go.Proofs.YtjpbemomocccaaaW.PrintMore
attribute [local go_sem] max2_int min2_int max_two min_two max_three min_three max_four min_four
set_option linter.unusedVariables false
set_option linter.unusedSimpArgs false

theorem own_eq (l : List Int) (hl : l.length ≤ 1048576) : spec_l00Own.f l = some l := by
  unfold spec_l00Own.f
  simp only [Option.bind_some, List.length_nil, List.nil_append]
  rw [if_pos (by omega)]
theorem clone_eq (l : List Int) (hl : l.length ≤ 1048576) : slices_Clone_int64_int64.f l = some l := by
  unfold slices_Clone_int64_int64.f
  rw [if_pos (by omega)]

end Go.Proofs.Ytjpbemomocccaaa.P

namespace Go.Proofs.Ytjpbemomocccaaa.P
open Go.RowKit Go.Proofs.YtjpbemomocccaaaW.PrintWords Go.Proofs.YtjpbemomocccaaaW.PrintLast Go.Proofs.YtjpbemomocccaaaW.PrintMore
attribute [local go_sem] max2_int min2_int max_two min_two max_three min_three max_four min_four
set_option linter.unusedVariables false
set_option linter.unusedSimpArgs false

/-- One column of the echelon. -/
def stepB (p : Int) (s : List (List Int) × List Int) (c : Nat) : List (List Int) × List Int :=
  if findN s.1 c s.2.length < s.1.length then
    (elimB p c s.2.length ((swapB s.1 s.2.length (findN s.1 c s.2.length)).set s.2.length (timesB p (invB p ((grp s.1 (findN s.1 c s.2.length)).getD c 0)) (grp s.1 (findN s.1 c s.2.length)))), s.2 ++ [(c : Int)])
  else s
/-- The rows and the columns of their first elements, behind all columns; the rows beyond these columns' number are still there. -/
def fullB (p : Int) (C : Nat) (rows : List (List Int)) : List (List Int) × List Int := (List.range C).foldl (stepB p) (rows, [])
structure EchP (p : Int) (C : Nat) (s : List (List Int) × List Int) : Prop where
  mat : MatP p C s.1
  le : s.2.length ≤ s.1.length
  rl : s.1.length ≤ 1000
theorem elimB_length (p : Int) (c n : Nat) (rows : List (List Int)) : (elimB p c n rows).length = rows.length := by simp [elimB]
theorem elimB_grp {p : Int} {c n : Nat} {rows : List (List Int)} {i : Nat} (hi : i < rows.length) : grp (elimB p c n rows) i = if i = n then grp rows i else addB p (grp rows i) (grp rows n) (p - (grp rows i).getD c 0) := by
  unfold elimB
  show ((List.range rows.length).map _).getD i [] = _
  rw [getD_map _ _ _ _ hi]
theorem elimB_mat {p : Int} {C c n : Nat} {rows : List (List Int)} (hp : 2 ≤ p) (h : MatP p C rows) : MatP p C (elimB p c n rows) := by
  intro i hi
  rw [elimB_length] at hi
  rw [elimB_grp hi]
  split
  · exact h i hi
  · exact addB_row hp (h i hi)
theorem set_mat {p : Int} {C n : Nat} {rows : List (List Int)} {r : List Int} (h : MatP p C rows) (hn : n < rows.length) (hr : RowP p C r) : MatP p C (rows.set n r) := by
  intro i hi
  rw [List.length_set] at hi
  show RowP p C ((rows.set n r).getD i [])
  rw [getD_set _ _ _ _ _ hn]
  split
  · exact hr
  · exact h i hi
theorem swap_mat {p : Int} {C n a : Nat} {rows : List (List Int)} (h : MatP p C rows) (hn : n < rows.length) (ha : a < rows.length) : MatP p C (swapB rows n a) := by
  intro i hi
  rw [swapB_length] at hi
  rw [swapB_grp hn ha]
  split
  · exact h n hn
  · split
    · exact h a ha
    · exact h i hi
theorem step_ech {p : Int} {C : Nat} {s : List (List Int) × List Int} (hp : 2 ≤ p) (h : EchP p C s) (c : Nat) : EchP p C (stepB p s c) := by
  unfold stepB
  by_cases ha : findN s.1 c s.2.length < s.1.length
  · have hle := (findN_le (rows := s.1) (c := c) (s.1.length - s.2.length) s.2.length (by have := h.le; omega)).1
    have hn : s.2.length < s.1.length := by omega
    rw [if_pos ha]
    refine ⟨elimB_mat hp (set_mat (swap_mat h.mat hn ha) (by rw [swapB_length]; exact hn) (timesB_row hp (h.mat _ ha))), ?_, ?_⟩
    · simp only [elimB_length, List.length_set, swapB_length, List.length_append, List.length_singleton]; omega
    · simp only [elimB_length, List.length_set, swapB_length]; exact h.rl
  · rw [if_neg ha]; exact h
theorem step_length (p : Int) (s : List (List Int) × List Int) (c : Nat) : (stepB p s c).1.length = s.1.length := by
  unfold stepB
  split
  · simp [elimB_length, swapB_length]
  · rfl
theorem invB_range {p a : Int} (hp : 2 ≤ p) : 0 ≤ invB p a ∧ invB p a ≤ p - 1 := pw_range hp _
theorem step_full {p : Int} {s : List (List Int) × List Int} (h : s.1.length ≤ s.2.length) (c : Nat) : stepB p s c = s := by
  unfold stepB
  rw [findN_end h, if_neg (by omega)]
theorem foldl_full {p : Int} {s : List (List Int) × List Int} (h : s.1.length ≤ s.2.length) : ∀ l : List Nat, l.foldl (stepB p) s = s := by
  intro l
  induction l with
  | nil => rfl
  | cons c l ih => rw [List.foldl_cons, step_full h, ih]
theorem spec_ech_loop {p : Int} {C : Nat} (hp : 2 ≤ p ∧ p ≤ 31) (hC : C ≤ 1000) : ∀ (d c : Nat) (s : List (List Int) × List Int), c + d = C → EchP p C s → Ev (fun k => spec_l03Echelon.l0 k p (C : Int) s.1 s.2 (s.2.length : Int) (c : Int)) (((List.range' c d).foldl (stepB p) s).1, ((List.range' c d).foldl (stepB p) s).2, (((List.range' c d).foldl (stepB p) s).2.length : Int)) := by
  intro d
  induction d with
  | zero =>
    intro c s hc h
    refine Ev.step (f := fun _ => some (s.1, s.2, (s.2.length : Int))) (fun k => ?_) (Ev.now _)
    simp only [spec_l03Echelon.l0]
    rw [if_neg (by omega)]
  | succ d ih =>
    intro c s hc h
    by_cases hful : s.1.length ≤ s.2.length
    · rw [foldl_full hful]
      refine Ev.step (f := fun _ => some (s.1, s.2, (s.2.length : Int))) (fun k => ?_) (Ev.now _)
      simp only [spec_l03Echelon.l0]
      rw [if_pos (by omega), if_neg (by omega)]
    have hlt : s.2.length < s.1.length := by omega
    have hn := ih (c + 1) (stepB p s c) (by omega) (step_ech hp.1 h c)
    rw [List.range'_succ, List.foldl_cons]
    obtain ⟨g1, g2, g3, g4⟩ := findN_le (rows := s.1) (c := c) (s.1.length - s.2.length) s.2.length (by have := h.le; omega)
    have hrl := h.rl
    refine Ev.step (f := fun k => (findB k s.1 (c : Int) (s.2.length : Int)).bind fun a => if a = (s.1.length : Int) then spec_l03Echelon.l0 k p (C : Int) s.1 s.2 (s.2.length : Int) ((c + 1 : Nat) : Int) else (if 0 ≤ a then (if a < (s.1.length : Int) then (if 0 ≤ (s.2.length : Int) then (if 0 ≤ (c : Int) then (if (c : Int) < ((rd_L1 s.1 a).length : Int) then ((spec_l03Inverse.f k p (rd (rd_L1 s.1 a) (c : Int))).bind fun inv => ((spec_l03Times.f k p (rd_L1 s.1 a) inv).bind fun r => ((spec_l03Echelon.l2 k p (c : Int) (s.2.length : Int) ((swapB s.1 a.toNat (s.2.length : Int).toNat).set (s.2.length : Int).toNat r) 0).bind fun rows2 => if s.2.length < 17592186044416 then spec_l03Echelon.l0 k p (C : Int) rows2 (s.2 ++ [(c : Int)]) (wrap64 ((s.2.length : Int) + 1)) ((c + 1 : Nat) : Int) else none))) else none) else none) else none) else none) else none)) (fun k => ?_) ?_
    · simp only [spec_l03Echelon.l0]
      rw [if_pos (by omega), if_pos (by omega), wr (x := (c : Int) + 1) (by omega) (by omega)]
      rfl
    · refine Ev.bind (findB_ev h.mat (by omega) hrl (s.1.length - s.2.length) s.2.length (by have := h.le; omega)) ?_
      by_cases ha : findN s.1 c s.2.length < s.1.length
      · have hra := h.mat _ ha
        have hl := hra.1
        simp only [if_neg (show ¬ ((findN s.1 c s.2.length : Nat) : Int) = (s.1.length : Int) by omega), if_pos (show (0 : Int) ≤ ((findN s.1 c s.2.length : Nat) : Int) by omega), if_pos (show ((findN s.1 c s.2.length : Nat) : Int) < (s.1.length : Int) by omega), if_pos (show (0 : Int) ≤ (s.2.length : Int) by omega), if_pos (show (0 : Int) ≤ (c : Int) by omega), Int.toNat_natCast, rdL_cast, rd_cast, if_pos (show (c : Int) < ((grp s.1 (findN s.1 c s.2.length)).length : Int) by omega), if_pos (show s.2.length < 17592186044416 by omega), swapB_comm hlt ha, wr (x := (s.2.length : Int) + 1) (by omega) (by omega)]
        refine Ev.bind (spec_inverse_ev p _ hp (hra.2 c)) (Ev.bind (spec_l03Times_ev hp hC hra (by have := invB_range (a := (grp s.1 (findN s.1 c s.2.length)).getD c 0) hp.1; unfold invB at *; omega)) (Ev.bind (spec_elim_ev hp hC (by rw [List.length_set, swapB_length]; exact hrl) (set_mat (swap_mat h.mat hlt ha) (by rw [swapB_length]; exact hlt) (timesB_row hp.1 hra)) (by omega) (by rw [List.length_set, swapB_length]; exact hlt)) ?_))
        unfold stepB at hn ⊢
        rw [if_pos ha] at hn ⊢
        simp only [List.length_append, List.length_singleton] at hn
        exact hn
      · simp only [if_pos (show ((findN s.1 c s.2.length : Nat) : Int) = (s.1.length : Int) by omega)]
        unfold stepB at hn ⊢
        rw [if_neg ha] at hn ⊢
        exact hn
theorem fold_ech {p : Int} {C : Nat} (hp : 2 ≤ p) : ∀ (l : List Nat) (s : List (List Int) × List Int), EchP p C s → EchP p C (l.foldl (stepB p) s) ∧ (l.foldl (stepB p) s).1.length = s.1.length := by
  intro l
  induction l with
  | nil => intro s h; exact ⟨h, rfl⟩
  | cons c l ih =>
    intro s h
    obtain ⟨h1, h2⟩ := ih (stepB p s c) (step_ech hp h c)
    exact ⟨h1, h2.trans (step_length p s c)⟩
theorem full_ech {p : Int} {C : Nat} {rows : List (List Int)} (hp : 2 ≤ p) (hM : MatP p C rows) (hl : rows.length ≤ 1000) : EchP p C (fullB p C rows) ∧ (fullB p C rows).1.length = rows.length := fold_ech hp _ _ ⟨hM, Nat.zero_le _, hl⟩
/-- The echelon's rows and the columns of their first elements. -/
def echB (p : Int) (C : Nat) (rows : List (List Int)) : List (List Int) × List Int := ((fullB p C rows).1.take (fullB p C rows).2.length, (fullB p C rows).2)
theorem copies_same (rows : List (List Int)) : (List.range rows.length).map (fun i => grp rows i) = rows := list_of_getD rows []
theorem spec_l03Copy_ev (p c : Int) (rows : List (List Int)) (hl : rows.length ≤ 1048576) (hr : ∀ r ∈ rows, r.length ≤ 1048576) : Ev (fun k => spec_l03Copy.f k p c rows) (p, c, rows) := by
  unfold spec_l03Copy.f
  refine build_ev (l := fun k i acc => spec_l03Copy.l0 k i p c rows p c acc) rows.length (fun i => grp rows i) (fun i acc hi ha r hr2 => ?_) ?_
  · refine Ev.step (fun k => ?_) hr2
    simp only [spec_l03Copy.l0]
    rw [if_pos (by omega), if_pos (by omega), rdL_cast, own_eq _ (grp_len hr _), wr (by omega) (by omega)]
    simp only [Option.bind_some, if_pos (show acc.length < 5864062014805 by omega)]
    rfl
  · refine Ev.step (f := fun _ => some (p, c, rows)) (fun k => ?_) (Ev.now _)
    simp only [spec_l03Copy.l0]
    rw [if_neg (by omega), copies_same]
theorem mat_small {p : Int} {C : Nat} {rows : List (List Int)} (hM : MatP p C rows) : ∀ r ∈ rows, r.length = C := by
  intro r hr
  obtain ⟨i, hi, rfl⟩ := List.getElem_of_mem hr
  have := (hM i hi).1
  rwa [show grp rows i = rows[i] from by simp [grp, hi]] at this
theorem spec_echelon_ev {p : Int} {C : Nat} {rows : List (List Int)} (hp : 2 ≤ p ∧ p ≤ 31) (hC : C ≤ 1000) (hM : MatP p C rows) (hl : rows.length ≤ 1000) : Ev (fun k => spec_l03Echelon.f k p (C : Int) rows) (p, (C : Int), (echB p C rows).1, (echB p C rows).2) := by
  unfold spec_l03Echelon.f
  have hs := mat_small hM
  refine Ev.bind (spec_l03Copy_ev p (C : Int) rows (by omega) (fun r hr => by rw [hs r hr]; omega)) ?_
  refine Ev.bind (spec_ech_loop hp hC C 0 (rows, []) (by omega) ⟨hM, Nat.zero_le _, hl⟩) ?_
  rw [← List.range_eq_range']
  have h := (full_ech hp.1 hM hl).1.le
  unfold echB
  show Ev (fun _ => if (0 : Int) ≤ ((fullB p C rows).2.length : Int) then (if ((fullB p C rows).2.length : Int) ≤ ((fullB p C rows).1.length : Int) then some (p, (C : Int), (fullB p C rows).1.take ((fullB p C rows).2.length : Int).toNat, (fullB p C rows).2) else none) else none) _
  simp only [if_pos (show (0 : Int) ≤ ((fullB p C rows).2.length : Int) by omega), if_pos (show ((fullB p C rows).2.length : Int) ≤ ((fullB p C rows).1.length : Int) by omega), Int.toNat_natCast]
  exact Ev.now _
theorem MatP_of_valid {p cols : Int} {rows : List (List Int)} (h : validMB p cols rows = true) : (2 ≤ p ∧ p ≤ 31) ∧ (cols.toNat : Int) = cols ∧ cols.toNat ≤ 12 ∧ rows.length ≤ 20 ∧ MatP p cols.toNat rows := by
  obtain ⟨h1, h2, h3, h4⟩ := validMB_parts h
  refine ⟨h1, by omega, by omega, h3, fun i hi => ⟨by have := (h4 i hi).1; omega, fun j => ?_⟩⟩
  by_cases hj : j < (grp rows i).length
  · have := elemsB_get (h4 i hi).2 j hj
    rw [List.getD_eq_getElem?_getD, List.getElem?_eq_getElem hj]
    exact this
  · rw [List.getD_eq_getElem?_getD, List.getElem?_eq_none (by omega)]
    show 0 ≤ (0 : Int) ∧ (0 : Int) ≤ p - 1
    omega
theorem ech_mat {p : Int} {C : Nat} {rows : List (List Int)} (hp : 2 ≤ p) (hM : MatP p C rows) (hl : rows.length ≤ 1000) : MatP p C (echB p C rows).1 ∧ (echB p C rows).1.length = (echB p C rows).2.length ∧ (echB p C rows).1.length ≤ rows.length := by
  obtain ⟨h1, h2⟩ := full_ech hp hM hl
  have hle := h1.le
  have e : (echB p C rows).1.length = (echB p C rows).2.length := by
    unfold echB
    rw [List.length_take]
    show min (fullB p C rows).2.length (fullB p C rows).1.length = (fullB p C rows).2.length
    omega
  refine ⟨fun i hi => ?_, e, ?_⟩
  · have hi2 : i < (fullB p C rows).2.length := by rw [e] at hi; exact hi
    have : grp (echB p C rows).1 i = grp (fullB p C rows).1 i := by
      unfold echB grp
      rw [List.getD_eq_getElem?_getD, List.getD_eq_getElem?_getD, List.getElem?_take, if_pos hi2]
    rw [this]
    exact h1.mat i (by omega)
  · rw [e]; unfold echB; show (fullB p C rows).2.length ≤ _; omega
end Go.Proofs.Ytjpbemomocccaaa.P

namespace Go.Proofs.Ytjpbemomocccaaa.P
open Go.RowKit Go.Proofs.YtjpbemomocccaaaW.PrintWords Go.Proofs.YtjpbemomocccaaaW.PrintLast Go.Proofs.YtjpbemomocccaaaW.PrintMore
attribute [local go_sem] max2_int min2_int max_two min_two max_three min_three max_four min_four
set_option linter.unusedVariables false
set_option linter.unusedSimpArgs false

/-- Sums, and what stays modulo p. -/
def sumN : Nat → (Nat → Int) → Int
  | 0, _ => 0
  | n + 1, f => sumN n f + f n
theorem sumN_congr {n : Nat} {f g : Nat → Int} (h : ∀ i, i < n → f i = g i) : sumN n f = sumN n g := by
  induction n with
  | zero => rfl
  | succ n ih => simp only [sumN]; rw [ih (fun i hi => h i (by omega)), h n (by omega)]
theorem sumN_add (n : Nat) (f g : Nat → Int) : sumN n (fun i => f i + g i) = sumN n f + sumN n g := by
  induction n with
  | zero => rfl
  | succ n ih => simp only [sumN]; rw [ih]; omega
theorem sumN_mul (n : Nat) (c : Int) (f : Nat → Int) : sumN n (fun i => c * f i) = c * sumN n f := by
  induction n with
  | zero => simp [sumN]
  | succ n ih => simp only [sumN]; rw [ih, Int.mul_add]
theorem sumN_zero {n : Nat} {f : Nat → Int} (h : ∀ i, i < n → f i = 0) : sumN n f = 0 := by
  induction n with
  | zero => rfl
  | succ n ih => simp only [sumN]; rw [ih (fun i hi => h i (by omega)), h n (by omega)]; rfl
/-- One of the summands apart. -/
theorem sumN_apart {n a : Nat} (ha : a < n) (f : Nat → Int) : sumN n f = sumN n (fun i => if i = a then 0 else f i) + f a := by
  induction n with
  | zero => omega
  | succ n ih =>
    simp only [sumN]
    by_cases h : a = n
    · subst h
      rw [if_pos rfl, sumN_congr (f := fun i => if i = a then 0 else f i) (g := f) (fun i hi => if_neg (by omega))]
      omega
    · rw [ih (by omega), if_neg (Ne.symm h)]
      omega
/-- Equal modulo p. -/
def Eqm (p a b : Int) : Prop := ∃ k, a = b + p * k
theorem Eqm.rfl_ (p a : Int) : Eqm p a a := ⟨0, by omega⟩
theorem Eqm.of_eq {p a b : Int} (h : a = b) : Eqm p a b := ⟨0, by omega⟩
theorem Eqm.symm {p a b : Int} (h : Eqm p a b) : Eqm p b a := by obtain ⟨k, h⟩ := h; exact ⟨-k, by grind⟩
theorem Eqm.trans {p a b c : Int} (h : Eqm p a b) (h2 : Eqm p b c) : Eqm p a c := by obtain ⟨k, h⟩ := h; obtain ⟨l, h2⟩ := h2; exact ⟨k + l, by grind⟩
theorem Eqm.add {p a b c d : Int} (h : Eqm p a b) (h2 : Eqm p c d) : Eqm p (a + c) (b + d) := by obtain ⟨k, h⟩ := h; obtain ⟨l, h2⟩ := h2; exact ⟨k + l, by grind⟩
theorem Eqm.sub {p a b c d : Int} (h : Eqm p a b) (h2 : Eqm p c d) : Eqm p (a - c) (b - d) := by obtain ⟨k, h⟩ := h; obtain ⟨l, h2⟩ := h2; exact ⟨k - l, by grind⟩
theorem Eqm.mul {p a b c d : Int} (h : Eqm p a b) (h2 : Eqm p c d) : Eqm p (a * c) (b * d) := by obtain ⟨k, h⟩ := h; obtain ⟨l, h2⟩ := h2; exact ⟨k * d + b * l + p * k * l, by grind⟩
theorem Eqm.mod (p a : Int) : Eqm p (a % p) a := ⟨-(a / p), by have := Int.emod_add_mul_ediv a p; grind⟩
theorem Eqm.p_ (p : Int) : Eqm p p 0 := ⟨1, by omega⟩
theorem Eqm.eq_of {p a b : Int} (h : Eqm p a b) (ha : 0 ≤ a ∧ a ≤ p - 1) (hb : 0 ≤ b ∧ b ≤ p - 1) : a = b := by
  obtain ⟨k, h⟩ := h
  have h1 : a % p = b % p := by rw [h]; exact Int.add_mul_emod_self_left b p k
  rwa [Int.emod_eq_of_lt ha.1 (by omega), Int.emod_eq_of_lt hb.1 (by omega)] at h1
theorem Eqm.sumN_ {p : Int} {n : Nat} {f g : Nat → Int} (h : ∀ i, i < n → Eqm p (f i) (g i)) : Eqm p (sumN n f) (sumN n g) := by
  induction n with
  | zero => exact Eqm.rfl_ _ _
  | succ n ih => exact Eqm.add (ih fun i hi => h i (by omega)) (h n (by omega))
theorem inv_all (p : Int) (hp : primeB p = true) (a : Int) (h1 : 1 ≤ a) (h2 : a ≤ p - 1) : (a * invB p a) % p = 1 := by
  have h := primeB_range hp
  have key : ∀ i : Fin 30, primeB ((i.val : Int) + 2) = true → ∀ j : Fin 31, 1 ≤ (j.val : Int) → (j.val : Int) ≤ ((i.val : Int) + 2) - 1 → ((j.val : Int) * invB ((i.val : Int) + 2) (j.val : Int)) % ((i.val : Int) + 2) = 1 := by decide +kernel
  have f31 : ∀ {P : Int → Prop}, (∀ i : Fin 31, P (i.val : Int)) → ∀ a : Int, 0 ≤ a → a ≤ 30 → P a := fun h a h1 h2 => by
    have := h ⟨a.toNat, by omega⟩
    rwa [show ((a.toNat : Nat) : Int) = a by omega] at this
  exact f31 (P := fun a => 1 ≤ a → a ≤ p - 1 → (a * invB p a) % p = 1)
    (fin30 (P := fun p => primeB p = true → ∀ j : Fin 31, 1 ≤ (j.val : Int) → (j.val : Int) ≤ p - 1 → ((j.val : Int) * invB p (j.val : Int)) % p = 1) key p h.1 h.2 hp) a (by omega) (by omega) h1 h2
theorem inv_eqm {p : Int} (hp : primeB p = true) {a : Int} (ha : 0 ≤ a ∧ a ≤ p - 1) (h0 : a ≠ 0) : Eqm p (a * invB p a) 1 := by
  have h := inv_all p hp a (by omega) (by omega)
  have _u1 := @Eqm.symm
  have _u2 := @Eqm.trans
  have := (Eqm.mod p (a * invB p a)).symm
  rwa [h] at this
/-- A row's elements. -/
def elm (r : List Int) (j : Nat) : Int := r.getD j 0
theorem elm_times {p b : Int} {r : List Int} {j : Nat} : Eqm p (elm (timesB p b r) j) (elm r j * b) := by
  unfold elm timesB
  by_cases h : j < r.length
  · rw [getD_map _ _ _ _ h]; exact Eqm.mod _ _
  · rw [List.getD_eq_getElem?_getD, List.getElem?_eq_none (by simp; omega), List.getD_eq_getElem?_getD, List.getElem?_eq_none (by omega)]
    exact Eqm.of_eq (by simp)
theorem elm_add {p t : Int} {C : Nat} {r s : List Int} {j : Nat} (hr : r.length = C) (hs : s.length = C) : Eqm p (elm (addB p r s t) j) (elm r j + elm s j * t) := by
  unfold elm addB
  by_cases h : j < r.length
  · rw [getD_map _ _ _ _ h]; exact Eqm.mod _ _
  · rw [List.getD_eq_getElem?_getD, List.getElem?_eq_none (by simp; omega), List.getD_eq_getElem?_getD, List.getElem?_eq_none (by omega), List.getD_eq_getElem?_getD, List.getElem?_eq_none (by omega)]
    exact Eqm.of_eq (by simp)
/-- What one column does to the elements: the row a goes to the place n, and is taken off all others. -/
structure StepR (p : Int) (C c n a : Nat) (A B : List (List Int)) : Prop where
  len : B.length = A.length
  at_n : ∀ j, Eqm p (elm (grp B n) j) (elm (grp A a) j * invB p (elm (grp A a) c))
  other : ∀ i, i < A.length → i ≠ n → ∀ j, Eqm p (elm (grp B i) j) (elm (grp A (if i = a then n else i)) j + elm (grp B n) j * (p - elm (grp A (if i = a then n else i)) c))
theorem step_found {p : Int} {C c : Nat} {s : List (List Int) × List Int} (hp : 2 ≤ p) (h : EchP p C s) (ha : findN s.1 c s.2.length < s.1.length) :
    StepR p C c s.2.length (findN s.1 c s.2.length) s.1 (stepB p s c).1 ∧ (stepB p s c).2 = s.2 ++ [(c : Int)] ∧ s.2.length ≤ findN s.1 c s.2.length := by
  have hle := (findN_le (rows := s.1) (c := c) (s.1.length - s.2.length) s.2.length (by have := h.le; omega)).1
  have hn : s.2.length < s.1.length := by omega
  have hz : EchP p C (stepB p s c) := step_ech hp h c
  have hmA := h.mat
  unfold stepB at hz ⊢
  rw [if_pos ha] at hz ⊢
  have hra := h.mat _ ha
  have hsw : ∀ i, i < s.1.length → grp ((swapB s.1 s.2.length (findN s.1 c s.2.length)).set s.2.length (timesB p (invB p ((grp s.1 (findN s.1 c s.2.length)).getD c 0)) (grp s.1 (findN s.1 c s.2.length)))) i = if i = s.2.length then timesB p (invB p ((grp s.1 (findN s.1 c s.2.length)).getD c 0)) (grp s.1 (findN s.1 c s.2.length)) else grp s.1 (if i = findN s.1 c s.2.length then s.2.length else i) := by
    intro i hi
    show ((swapB s.1 s.2.length (findN s.1 c s.2.length)).set s.2.length _).getD i [] = _
    rw [getD_set _ _ _ _ _ (by rw [swapB_length]; exact hn)]
    by_cases h1 : i = s.2.length
    · rw [if_pos h1, if_pos h1]
    · rw [if_neg h1, if_neg h1]
      have := swapB_grp hn ha i
      unfold grp at this
      rw [this, if_neg h1]
      split <;> rfl
  have hlen : ((swapB s.1 s.2.length (findN s.1 c s.2.length)).set s.2.length (timesB p (invB p ((grp s.1 (findN s.1 c s.2.length)).getD c 0)) (grp s.1 (findN s.1 c s.2.length)))).length = s.1.length := by rw [List.length_set, swapB_length]
  have hrow_n := hsw s.2.length hn
  rw [if_pos rfl] at hrow_n
  refine ⟨⟨by rw [elimB_length, hlen], fun j => ?_, fun i hi hne j => ?_⟩, rfl, hle⟩
  · rw [elimB_grp (by rw [hlen]; exact hn), if_pos rfl, hrow_n]
    exact elm_times
  · have hi2 : (if i = findN s.1 c s.2.length then s.2.length else i) < s.1.length := by split <;> omega
    have e1 := hsw i hi
    rw [if_neg hne] at e1
    rw [elimB_grp (by rw [hlen]; exact hi), if_neg hne, elimB_grp (by rw [hlen]; exact hn), if_pos rfl, hrow_n, e1]
    exact elm_add (hmA _ hi2).1 (timesB_row hp hra).1

end Go.Proofs.Ytjpbemomocccaaa.P

namespace Go.Proofs.Ytjpbemomocccaaa.P
open Go.RowKit Go.Proofs.YtjpbemomocccaaaW.PrintWords Go.Proofs.YtjpbemomocccaaaW.PrintLast Go.Proofs.YtjpbemomocccaaaW.PrintMore
attribute [local go_sem] max2_int min2_int max_two min_two max_three min_three max_four min_four
set_option linter.unusedVariables false
set_option linter.unusedSimpArgs false

/-- z has the product 0 with all rows. -/
def dotZ (C : Nat) (r : List Int) (z : Nat → Int) : Int := sumN C (fun j => elm r j * z j)
def KerP (p : Int) (C : Nat) (A : List (List Int)) (z : Nat → Int) : Prop := ∀ i, i < A.length → Eqm p (dotZ C (grp A i) z) 0
theorem dotZ_lin {p : Int} {C : Nat} {r s q : List Int} {t : Int} {z : Nat → Int} (h : ∀ j, Eqm p (elm q j) (elm r j + elm s j * t)) : Eqm p (dotZ C q z) (dotZ C r z + t * dotZ C s z) := by
  unfold dotZ
  rw [← sumN_mul, ← sumN_add]
  exact Eqm.sumN_ fun j _ => (Eqm.mul (h j) (Eqm.rfl_ p (z j))).trans (Eqm.of_eq (by grind))
theorem dotZ_mul {p : Int} {C : Nat} {r q : List Int} {t : Int} {z : Nat → Int} (h : ∀ j, Eqm p (elm q j) (elm r j * t)) : Eqm p (dotZ C q z) (t * dotZ C r z) := by
  unfold dotZ
  rw [← sumN_mul]
  exact Eqm.sumN_ fun j _ => (Eqm.mul (h j) (Eqm.rfl_ p (z j))).trans (Eqm.of_eq (by grind))
theorem ker_step {p : Int} {C c n a : Nat} {A B : List (List Int)} {z : Nat → Int} (h : StepR p C c n a A B) (hn : n < A.length) (ha : a < A.length) (hx : Eqm p (elm (grp A a) c * invB p (elm (grp A a) c)) 1) : KerP p C A z ↔ KerP p C B z := by
  have hBn := dotZ_mul (C := C) (z := z) h.at_n
  constructor
  · intro hA i hi
    rw [h.len] at hi
    have hb : Eqm p (dotZ C (grp B n) z) 0 := hBn.trans ((Eqm.mul (Eqm.rfl_ p _) (hA a ha)).trans (Eqm.of_eq (by simp)))
    by_cases hin : i = n
    · rw [hin]; exact hb
    · have h1 := dotZ_lin (C := C) (z := z) (h.other i hi hin)
      have hi2 : (if i = a then n else i) < A.length := by split; exact hn; exact hi
      exact h1.trans ((Eqm.add (hA _ hi2) (Eqm.mul (Eqm.rfl_ p _) hb)).trans (Eqm.of_eq (by simp)))
  · intro hB i hi
    have hb := hB n (by rw [h.len]; exact hn)
    have haz : Eqm p (dotZ C (grp A a) z) 0 := by
      have h1 := Eqm.mul (Eqm.rfl_ p (elm (grp A a) c)) (hBn.symm.trans hb)
      have h2 := Eqm.mul hx (Eqm.rfl_ p (dotZ C (grp A a) z))
      exact ((Eqm.of_eq (by grind)).trans h2.symm).trans ((Eqm.of_eq (by grind)).trans (h1.trans (Eqm.of_eq (by simp))))
    by_cases hia : i = a
    · rw [hia]; exact haz
    · have hk : (if i = n then a else i) ≠ n := by by_cases h2 : i = n <;> simp [h2] <;> omega
      have hk2 : (if i = n then a else i) < A.length := by split; exact ha; exact hi
      have hk3 : (if (if i = n then a else i) = a then n else (if i = n then a else i)) = i := by
        by_cases h2 : i = n
        · rw [if_pos h2, if_pos rfl, h2]
        · rw [if_neg h2, if_neg hia]
      have h1 := dotZ_lin (C := C) (z := z) (h.other _ hk2 hk)
      rw [hk3] at h1
      have h3 := hB _ (by rw [h.len]; exact hk2)
      have h4 := Eqm.sub (h1.symm.trans h3) (Eqm.mul (Eqm.rfl_ p (p - elm (grp A i) c)) hb)
      exact (Eqm.of_eq (by grind)).trans (h4.trans (Eqm.of_eq (by grind)))
/-- What is known of the rows and the columns of their first elements, behind the columns below c. -/
structure RrefP (p : Int) (C c : Nat) (s : List (List Int) × List Int) : Prop where
  zero : ∀ i, s.2.length ≤ i → i < s.1.length → ∀ j, j < c → elm (grp s.1 i) j = 0
  lt : ∀ k, k < s.2.length → 0 ≤ rd s.2 (k : Int) ∧ rd s.2 (k : Int) < (c : Int)
  incr : ∀ k l, k < l → l < s.2.length → rd s.2 (k : Int) < rd s.2 (l : Int)
  delta : ∀ k, k < s.2.length → ∀ i, i < s.1.length → elm (grp s.1 i) (rd s.2 (k : Int)).toNat = if i = k then 1 else 0
  left : ∀ k, k < s.2.length → ∀ j, j < (rd s.2 (k : Int)).toNat → elm (grp s.1 k) j = 0
theorem elm_range {p : Int} {C : Nat} {A : List (List Int)} (hp : 2 ≤ p) (h : MatP p C A) (i j : Nat) (hi : i < A.length) : 0 ≤ elm (grp A i) j ∧ elm (grp A i) j ≤ p - 1 := (h i hi).2 j
theorem rd_snoc (l : List Int) (x : Int) (k : Nat) : rd (l ++ [x]) (k : Int) = if k < l.length then rd l (k : Int) else if k = l.length then x else 0 := by
  rw [rd_cast, rd_cast, List.getD_eq_getElem?_getD, List.getD_eq_getElem?_getD]
  by_cases h : k < l.length
  · rw [if_pos h, List.getElem?_append_left h]
  · rw [if_neg h, List.getElem?_append_right (by omega)]
    by_cases h2 : k = l.length
    · rw [if_pos h2, h2]; simp
    · rw [if_neg h2, List.getElem?_eq_none (by simp; omega)]; rfl
theorem rref_step {p : Int} {C c : Nat} {s : List (List Int) × List Int} (hpr : primeB p = true) (hE : EchP p C s) (hR : RrefP p C c s) : RrefP p C (c + 1) (stepB p s c) := by
  have hp := primeB_range hpr
  have hE2 := step_ech hp.1 hE c
  obtain ⟨g1, g2, g3, g4⟩ := findN_le (rows := s.1) (c := c) (s.1.length - s.2.length) s.2.length (by have := hE.le; omega)
  by_cases ha : findN s.1 c s.2.length < s.1.length
  · obtain ⟨hS, hP, hle⟩ := step_found hp.1 hE ha
    have hlen := step_length p s c
    have hn : s.2.length < s.1.length := by omega
    have hx := inv_eqm hpr ((hE.mat _ ha).2 c) (g3 ha)
    have one : (1 : Int) ≤ p - 1 := by omega
    have rng : ∀ i j, i < s.1.length → 0 ≤ elm (grp (stepB p s c).1 i) j ∧ elm (grp (stepB p s c).1 i) j ≤ p - 1 := fun i j hi => elm_range hp.1 hE2.mat i j (by rw [hlen]; exact hi)
    -- row n: 0 ahead of c, 1 at c
    have hn0 : ∀ j, j < c → elm (grp (stepB p s c).1 s.2.length) j = 0 := fun j hj => by
      refine Eqm.eq_of ((hS.at_n j).trans ?_) (rng _ _ hn) (by omega)
      rw [hR.zero _ hle ha j hj]
      exact Eqm.of_eq (by simp)
    have hn1 : elm (grp (stepB p s c).1 s.2.length) c = 1 := Eqm.eq_of ((hS.at_n c).trans hx) (rng _ _ hn) (by omega)
    -- the others
    have ho : ∀ i, i < s.1.length → i ≠ s.2.length → ∀ j, j < c → elm (grp (stepB p s c).1 i) j = elm (grp s.1 (if i = findN s.1 c s.2.length then s.2.length else i)) j := fun i hi hin j hj => by
      have hi2 : (if i = findN s.1 c s.2.length then s.2.length else i) < s.1.length := by split <;> omega
      refine Eqm.eq_of ((hS.other i hi hin j).trans ?_) (rng _ _ hi) (elm_range hp.1 hE.mat _ _ hi2)
      rw [hn0 j hj]
      exact Eqm.of_eq (by simp)
    have hoc : ∀ i, i < s.1.length → i ≠ s.2.length → elm (grp (stepB p s c).1 i) c = 0 := fun i hi hin => by
      refine Eqm.eq_of ((hS.other i hi hin c).trans ?_) (rng _ _ hi) (by omega)
      rw [hn1]
      exact (Eqm.of_eq (by grind)).trans (Eqm.p_ p)
    have hps : ∀ k : Nat, rd (stepB p s c).2 (k : Int) = if k < s.2.length then rd s.2 (k : Int) else if k = s.2.length then (c : Int) else 0 := fun k => by rw [hP]; exact rd_snoc _ _ _
    have hpl : (stepB p s c).2.length = s.2.length + 1 := by rw [hP]; simp
    refine ⟨fun i h1 h2 j hj => ?_, fun k hk => ?_, fun k l hkl hl => ?_, fun k hk i hi => ?_, fun k hk j hj => ?_⟩
    · rw [hpl] at h1
      rw [hlen] at h2
      by_cases hjc : j = c
      · rw [hjc]; exact hoc i h2 (by omega)
      · rw [ho i h2 (by omega) j (by omega)]
        exact hR.zero _ (by split <;> omega) (by split <;> omega) j (by omega)
    · rw [hpl] at hk
      rw [hps]
      by_cases hk2 : k < s.2.length
      · rw [if_pos hk2]; have := hR.lt k hk2; omega
      · rw [if_neg hk2, if_pos (by omega)]; omega
    · rw [hpl] at hl
      rw [hps, hps, if_pos (by omega)]
      by_cases hl2 : l < s.2.length
      · rw [if_pos hl2]; exact hR.incr k l hkl hl2
      · rw [if_neg hl2, if_pos (by omega)]; exact (hR.lt k (by omega)).2
    · rw [hpl] at hk
      rw [hlen] at hi
      rw [hps]
      by_cases hk2 : k < s.2.length
      · have hl := hR.lt k hk2
        rw [if_pos hk2]
        by_cases hin : i = s.2.length
        · rw [hin, hn0 _ (by omega), if_neg (by omega)]
        · rw [ho i hi hin _ (by omega), hR.delta k hk2 _ (by split <;> omega)]
          by_cases hia : i = findN s.1 c s.2.length
          · rw [if_pos hia, if_neg (by omega), if_neg (by omega)]
          · rw [if_neg hia]
      · rw [if_neg hk2, if_pos (by omega), Int.toNat_natCast]
        by_cases hin : i = s.2.length
        · rw [if_pos (by omega), hin]; exact hn1
        · rw [if_neg (by omega)]; exact hoc i hi hin
    · rw [hpl] at hk
      rw [hps] at hj
      by_cases hk2 : k < s.2.length
      · rw [if_pos hk2] at hj
        have hl := hR.lt k hk2
        rw [ho k (by omega) (by omega) j (by omega), if_neg (by omega)]
        exact hR.left k hk2 j hj
      · rw [if_neg hk2, if_pos (by omega), Int.toNat_natCast] at hj
        rw [show k = s.2.length by omega]
        exact hn0 j hj
  · have e : stepB p s c = s := by unfold stepB; rw [if_neg ha]
    rw [e]
    refine ⟨fun i h1 h2 j hj => ?_, fun k hk => by have := hR.lt k hk; omega, hR.incr, hR.delta, hR.left⟩
    by_cases hjc : j = c
    · rw [hjc]; exact g4 i h1 (by omega)
    · exact hR.zero i h1 h2 j (by omega)
theorem rref_fold {p : Int} {C : Nat} (hpr : primeB p = true) : ∀ (d c : Nat) (s : List (List Int) × List Int), EchP p C s → RrefP p C c s → RrefP p C (c + d) ((List.range' c d).foldl (stepB p) s) := by
  intro d
  induction d with
  | zero => intro c s _ h; exact h
  | succ d ih =>
    intro c s hE hR
    rw [List.range'_succ, List.foldl_cons]
    have := ih (c + 1) _ (step_ech (primeB_range hpr).1 hE c) (rref_step hpr hE hR)
    rwa [show c + 1 + d = c + (d + 1) by omega] at this
theorem rref_start (p : Int) (C : Nat) (rows : List (List Int)) : RrefP p C 0 (rows, []) :=
  ⟨fun i _ _ j hj => by omega, fun k hk => by simp at hk, fun k l _ hl => by simp at hl, fun k hk => by simp at hk, fun k hk => by simp at hk⟩
theorem full_rref {p : Int} {C : Nat} {rows : List (List Int)} (hpr : primeB p = true) (hM : MatP p C rows) (hl : rows.length ≤ 1000) : RrefP p C C (fullB p C rows) := by
  have := rref_fold hpr C 0 (rows, []) ⟨hM, Nat.zero_le _, hl⟩ (rref_start p C rows)
  rw [Nat.zero_add, ← List.range_eq_range'] at this
  exact this
theorem ker_fold {p : Int} {C : Nat} {z : Nat → Int} (hpr : primeB p = true) : ∀ (l : List Nat) (s : List (List Int) × List Int), EchP p C s → (KerP p C s.1 z ↔ KerP p C (l.foldl (stepB p) s).1 z) := by
  intro l
  induction l with
  | nil => intro s _; exact Iff.rfl
  | cons c l ih =>
    intro s hE
    refine Iff.trans ?_ (ih _ (step_ech (primeB_range hpr).1 hE c))
    by_cases ha : findN s.1 c s.2.length < s.1.length
    · obtain ⟨hS, _, hle⟩ := step_found (primeB_range hpr).1 hE ha
      obtain ⟨g1, g2, g3, g4⟩ := findN_le (rows := s.1) (c := c) (s.1.length - s.2.length) s.2.length (by have := hE.le; omega)
      exact ker_step hS (by omega) ha (inv_eqm hpr ((hE.mat _ ha).2 c) (g3 ha))
    · unfold stepB; rw [if_neg ha]
theorem full_ker {p : Int} {C : Nat} {rows : List (List Int)} {z : Nat → Int} (hpr : primeB p = true) (hM : MatP p C rows) (hl : rows.length ≤ 1000) : KerP p C rows z ↔ KerP p C (fullB p C rows).1 z := ker_fold hpr (List.range C) (rows, []) ⟨hM, Nat.zero_le _, hl⟩

end Go.Proofs.Ytjpbemomocccaaa.P

namespace Go.Proofs.Ytjpbemomocccaaa.P
open Go.RowKit Go.Proofs.YtjpbemomocccaaaW.PrintWords Go.Proofs.YtjpbemomocccaaaW.PrintLast Go.Proofs.YtjpbemomocccaaaW.PrintMore
attribute [local go_sem] max2_int min2_int max_two min_two max_three min_three max_four min_four
set_option linter.unusedVariables false
set_option linter.unusedSimpArgs false

/-! ### slices_Index_int_int: function 113 -/
end Go.Proofs.Ytjpbemomocccaaa.P

namespace Go.Proofs.Ytjpbemomocccaaa.P
open Go.RowKit Go.Proofs.YtjpbemomocccaaaW.PrintWords Go.Proofs.YtjpbemomocccaaaW.PrintLast Go.Proofs.YtjpbemomocccaaaW.PrintMore
attribute [local go_sem] max2_int min2_int max_two min_two max_three min_three max_four min_four
set_option linter.unusedVariables false
set_option linter.unusedSimpArgs false

/-! ### spec_l00Has: function 96 -/
end Go.Proofs.Ytjpbemomocccaaa.P

namespace Go.Proofs.Ytjpbemomocccaaa.P
open Go.RowKit Go.Proofs.YtjpbemomocccaaaW.PrintWords Go.Proofs.YtjpbemomocccaaaW.PrintLast Go.Proofs.YtjpbemomocccaaaW.PrintMore
attribute [local go_sem] max2_int min2_int max_two min_two max_three min_three max_four min_four
set_option linter.unusedVariables false
set_option linter.unusedSimpArgs false

/-! ### spec_l03Kernel: function 56 -/
end Go.Proofs.Ytjpbemomocccaaa.P

namespace Go.Proofs.Ytjpbemomocccaaa.P
open Go.RowKit Go.Proofs.YtjpbemomocccaaaW.PrintWords Go.Proofs.YtjpbemomocccaaaW.PrintLast Go.Proofs.YtjpbemomocccaaaW.PrintMore
attribute [local go_sem] max2_int min2_int max_two min_two max_three min_three max_four min_four
set_option linter.unusedVariables false
set_option linter.unusedSimpArgs false

/-! ### spec_KernelOf: function 19 -/
end Go.Proofs.Ytjpbemomocccaaa.P

namespace Go.Proofs.Ytjpbemomocccaaa.P
open Go.RowKit Go.Proofs.YtjpbemomocccaaaW.PrintWords Go.Proofs.YtjpbemomocccaaaW.PrintLast Go.Proofs.YtjpbemomocccaaaW.PrintMore
attribute [local go_sem] max2_int min2_int max_two min_two max_three min_three max_four min_four
set_option linter.unusedVariables false
set_option linter.unusedSimpArgs false

/-! ### slices_Contains_int_int: function 97 -/
end Go.Proofs.Ytjpbemomocccaaa.P

namespace Go.Proofs.Ytjpbemomocccaaa.P
open Go.RowKit Go.Proofs.YtjpbemomocccaaaW.PrintWords Go.Proofs.YtjpbemomocccaaaW.PrintLast Go.Proofs.YtjpbemomocccaaaW.PrintMore
attribute [local go_sem] max2_int min2_int max_two min_two max_three min_three max_four min_four
set_option linter.unusedVariables false
set_option linter.unusedSimpArgs false

/-! ### impl_Matrix_kernel: function 58 -/
end Go.Proofs.Ytjpbemomocccaaa.P

namespace Go.Proofs.Ytjpbemomocccaaa.P
open Go.RowKit Go.Proofs.YtjpbemomocccaaaW.PrintWords Go.Proofs.YtjpbemomocccaaaW.PrintLast Go.Proofs.YtjpbemomocccaaaW.PrintMore
attribute [local go_sem] max2_int min2_int max_two min_two max_three min_three max_four min_four
set_option linter.unusedVariables false
set_option linter.unusedSimpArgs false

/-! ### impl_KernelOf: function 20 -/
end Go.Proofs.Ytjpbemomocccaaa.P

namespace Go.Proofs.Ytjpbemomocccaaa.P
open Go.RowKit Go.Proofs.YtjpbemomocccaaaW.PrintWords Go.Proofs.YtjpbemomocccaaaW.PrintLast Go.Proofs.YtjpbemomocccaaaW.PrintMore
attribute [local go_sem] max2_int min2_int max_two min_two max_three min_three max_four min_four
set_option linter.unusedVariables false
set_option linter.unusedSimpArgs false

theorem step_piv {p : Int} {C : Nat} {s : List (List Int) × List Int} {c : Nat} (hc : c < C) (h : ∀ x ∈ s.2, 0 ≤ x ∧ x < (C : Int)) : ∀ x ∈ (stepB p s c).2, 0 ≤ x ∧ x < (C : Int) := by
  unfold stepB
  split
  · intro x hx
    rcases List.mem_append.mp hx with hx | hx
    · exact h x hx
    · obtain rfl := List.mem_singleton.mp hx; omega
  · exact h
theorem fold_piv {p : Int} {C : Nat} : ∀ (l : List Nat) (s : List (List Int) × List Int), (∀ c ∈ l, c < C) → (∀ x ∈ s.2, 0 ≤ x ∧ x < (C : Int)) → ∀ x ∈ (l.foldl (stepB p) s).2, 0 ≤ x ∧ x < (C : Int) := by
  intro l
  induction l with
  | nil => intro s _ h; exact h
  | cons c l ih => intro s hl h; exact ih _ (fun c' hc' => hl c' (List.mem_cons_of_mem _ hc')) (step_piv (hl c (List.mem_cons_self ..)) h)
theorem ech_piv (p : Int) (C : Nat) (rows : List (List Int)) : ∀ x ∈ (echB p C rows).2, 0 ≤ x ∧ x < (C : Int) := fold_piv _ _ (fun c hc => List.mem_range.mp hc) (by simp)
theorem ech_piv_at (p : Int) (C : Nat) (rows : List (List Int)) (i : Nat) (hi : i < (echB p C rows).2.length) : 0 ≤ (echB p C rows).2.getD i 0 ∧ (echB p C rows).2.getD i 0 < (C : Int) := by
  rw [List.getD_eq_getElem?_getD, List.getElem?_eq_getElem hi]
  exact ech_piv p C rows _ (List.getElem_mem hi)
theorem RowP_set {p : Int} {C n : Nat} {r : List Int} {v : Int} (h : RowP p C r) (hn : n < C) (hv : 0 ≤ v ∧ v ≤ p - 1) : RowP p C (r.set n v) := by
  refine ⟨by rw [List.length_set]; exact h.1, fun j => ?_⟩
  rw [getD_set _ _ _ _ _ (by rw [h.1]; exact hn)]
  split
  · exact hv
  · exact h.2 j
theorem RowP_zero {p : Int} (hp : 2 ≤ p) (C : Nat) : RowP p C (List.replicate C 0) := by
  refine ⟨by simp, fun j => ?_⟩
  have : (List.replicate C (0 : Int)).getD j 0 = 0 := by
    rw [List.getD_eq_getElem?_getD, List.getElem?_replicate]
    split <;> rfl
  rw [this]; omega
end Go.Proofs.Ytjpbemomocccaaa.P

namespace Go.Proofs.Ytjpbemomocccaaa.P
open Go.RowKit Go.Proofs.YtjpbemomocccaaaW.PrintWords Go.Proofs.YtjpbemomocccaaaW.PrintLast Go.Proofs.YtjpbemomocccaaaW.PrintMore
attribute [local go_sem] max2_int min2_int max_two min_two max_three min_three max_four min_four
set_option linter.unusedVariables false
set_option linter.unusedSimpArgs false

theorem getD_take {α : Type} (l : List α) (n j : Nat) (d : α) : (l.take n).getD j d = if j < n then l.getD j d else d := by
  rw [List.getD_eq_getElem?_getD, List.getElem?_take]
  split
  · rw [List.getD_eq_getElem?_getD]
  · rfl
theorem getD_append {α : Type} (a b : List α) (j : Nat) (d : α) : (a ++ b).getD j d = if j < a.length then a.getD j d else b.getD (j - a.length) d := by
  rw [List.getD_eq_getElem?_getD]
  split
  · rename_i h; rw [List.getElem?_append_left h, List.getD_eq_getElem?_getD]
  · rename_i h; rw [List.getElem?_append_right (by omega), List.getD_eq_getElem?_getD]
def unitB (n i : Nat) : List Int := (List.replicate n 0).set i 1
theorem unitB_getD {n i j : Nat} (hi : i < n) : (unitB n i).getD j 0 = if j = i then 1 else 0 := by
  unfold unitB
  rw [getD_set _ _ _ _ _ (by simpa using hi)]
  split
  · rfl
  · rw [List.getD_eq_getElem?_getD, List.getElem?_replicate]; split <;> rfl
theorem RowP_append {p : Int} {C D : Nat} {r s : List Int} (h : RowP p C r) (h2 : RowP p D s) : RowP p (C + D) (r ++ s) := by
  refine ⟨by rw [List.length_append, h.1, h2.1], fun j => ?_⟩
  rw [getD_append]
  split
  · exact h.2 j
  · exact h2.2 _
end Go.Proofs.Ytjpbemomocccaaa.P

namespace Go.Proofs.Ytjpbemomocccaaa.P
open Go.RowKit Go.Proofs.YtjpbemomocccaaaW.PrintWords Go.Proofs.YtjpbemomocccaaaW.PrintLast Go.Proofs.YtjpbemomocccaaaW.PrintMore
attribute [local go_sem] max2_int min2_int max_two min_two max_three min_three max_four min_four
set_option linter.unusedVariables false
set_option linter.unusedSimpArgs false

/-! ### spec_l03Rank: function 59 -/
end Go.Proofs.Ytjpbemomocccaaa.P

namespace Go.Proofs.Ytjpbemomocccaaa.P
open Go.RowKit Go.Proofs.YtjpbemomocccaaaW.PrintWords Go.Proofs.YtjpbemomocccaaaW.PrintLast Go.Proofs.YtjpbemomocccaaaW.PrintMore
attribute [local go_sem] max2_int min2_int max_two min_two max_three min_three max_four min_four
set_option linter.unusedVariables false
set_option linter.unusedSimpArgs false

/-! ### spec_l03Unit: function 60 -/
end Go.Proofs.Ytjpbemomocccaaa.P

namespace Go.Proofs.Ytjpbemomocccaaa.P
open Go.RowKit Go.Proofs.YtjpbemomocccaaaW.PrintWords Go.Proofs.YtjpbemomocccaaaW.PrintLast Go.Proofs.YtjpbemomocccaaaW.PrintMore
attribute [local go_sem] max2_int min2_int max_two min_two max_three min_three max_four min_four
set_option linter.unusedVariables false
set_option linter.unusedSimpArgs false

/-! ### spec_InverseOf: function 21 -/
end Go.Proofs.Ytjpbemomocccaaa.P

namespace Go.Proofs.Ytjpbemomocccaaa.P
open Go.RowKit Go.Proofs.YtjpbemomocccaaaW.PrintWords Go.Proofs.YtjpbemomocccaaaW.PrintLast Go.Proofs.YtjpbemomocccaaaW.PrintMore
attribute [local go_sem] max2_int min2_int max_two min_two max_three min_three max_four min_four
set_option linter.unusedVariables false
set_option linter.unusedSimpArgs false

/-! ### impl_Matrix_isSquare: function 63 -/
end Go.Proofs.Ytjpbemomocccaaa.P

namespace Go.Proofs.Ytjpbemomocccaaa.P
open Go.RowKit Go.Proofs.YtjpbemomocccaaaW.PrintWords Go.Proofs.YtjpbemomocccaaaW.PrintLast Go.Proofs.YtjpbemomocccaaaW.PrintMore
attribute [local go_sem] max2_int min2_int max_two min_two max_three min_three max_four min_four
set_option linter.unusedVariables false
set_option linter.unusedSimpArgs false

/-! ### impl_InverseOf: function 22 -/
end Go.Proofs.Ytjpbemomocccaaa.P

namespace Go.Proofs.Ytjpbemomocccaaa.P
open Go.RowKit Go.Proofs.YtjpbemomocccaaaW.PrintWords Go.Proofs.YtjpbemomocccaaaW.PrintLast Go.Proofs.YtjpbemomocccaaaW.PrintMore
attribute [local go_sem] max2_int min2_int max_two min_two max_three min_three max_four min_four
set_option linter.unusedVariables false
set_option linter.unusedSimpArgs false

/-- The rows with cols' columns beside them. -/
def besideB (rows cols : List (List Int)) : List (List Int) := (List.range rows.length).map fun i => grp rows i ++ (List.range cols.length).map fun j => (grp cols j).getD i 0
theorem spec_beside_go {p a b c : Int} {rows cols acc : List (List Int)} {i : Nat} {r : Int × Int × List (List Int)} (hc : cols.length ≤ 1000) (hi : i < rows.length) (hrl : rows.length ≤ 1000) (hcl : ∀ j, j < cols.length → rows.length ≤ (grp cols j).length) (hrow : (grp rows i).length ≤ 1000) (hacc : acc.length = i)
    (h : Ev (fun k => spec_l03Beside.l0 k cols ((i + 1 : Nat) : Int) p a rows b c (acc ++ [grp rows i ++ (List.range cols.length).map fun j => (grp cols j).getD i 0])) r) :
    Ev (fun k => spec_l03Beside.l1 k cols (i : Int) (grp rows i) 0 p a rows b c acc) r := by
  have key : ∀ d j : Nat, j + d = cols.length → Ev (fun k => spec_l03Beside.l1 k cols (i : Int) (grp rows i ++ (List.range j).map fun j => (grp cols j).getD i 0) (j : Int) p a rows b c acc) r := by
    intro d
    induction d with
    | zero =>
      intro j hj
      obtain rfl : j = cols.length := by omega
      refine Ev.step (fun k => ?_) h
      simp only [spec_l03Beside.l1]
      rw [if_neg (by omega), if_pos (by omega), wr (by omega) (by omega)]
      rfl
    | succ d ih =>
      intro j hj
      have := hcl j (by omega)
      have e : (grp rows i ++ (List.range (j + 1)).map fun j => (grp cols j).getD i 0) = (grp rows i ++ (List.range j).map fun j => (grp cols j).getD i 0) ++ [(grp cols j).getD i 0] := by
        rw [List.range_succ, List.map_append, List.append_assoc]; rfl
      refine Ev.step (fun k => ?_) (ih (j + 1) (by omega))
      simp only [spec_l03Beside.l1]
      rw [if_pos (by omega), if_pos (by omega), if_pos (by omega), rdL_cast, if_pos (by omega), if_pos (by simp only [List.length_append, List.length_map, List.length_range]; omega), rd_cast, wr (by omega) (by omega), e]
      rfl
  have := key cols.length 0 (by omega)
  rw [List.range_zero, List.map_nil, List.append_nil] at this
  exact this
theorem spec_l03Beside_ev {p a : Int} {rows cols : List (List Int)} (ha : 0 ≤ a ∧ a ≤ 1000) (hc : cols.length ≤ 1000) (hrl : rows.length ≤ 1000) (hr : ∀ r ∈ rows, r.length ≤ 1000) (hcl : ∀ j, j < cols.length → rows.length ≤ (grp cols j).length) : Ev (fun k => spec_l03Beside.f k p a rows cols) (p, a + (cols.length : Int), besideB rows cols) := by
  unfold spec_l03Beside.f
  rw [wr (by omega) (by omega)]
  refine build_ev (l := fun k i acc => spec_l03Beside.l0 k cols i p a rows p (a + (cols.length : Int)) acc) rows.length (fun i => grp rows i ++ (List.range cols.length).map fun j => (grp cols j).getD i 0) (fun i acc hi hacc r hr2 => ?_) ?_
  · refine Ev.step (fun k => ?_) (spec_beside_go hc hi hrl hcl (grp_len hr i) hacc hr2)
    simp only [spec_l03Beside.l0]
    rw [if_pos (by omega), if_pos (by omega), rdL_cast, own_eq _ (Nat.le_trans (grp_len hr i) (by omega))]
    rfl
  · refine Ev.step (f := fun _ => some (p, a + (cols.length : Int), besideB rows cols)) (fun k => ?_) (Ev.now _)
    simp only [spec_l03Beside.l0]
    rw [if_neg (by omega)]; rfl
theorem prime_of_valid {p cols : Int} {rows : List (List Int)} (h : validMB p cols rows = true) : primeB p = true := by
  unfold validMB at h
  simp only [Bool.and_eq_true] at h
  exact h.1
end Go.Proofs.Ytjpbemomocccaaa.P

namespace Go.Proofs.Ytjpbemomocccaaa.P
open Go.RowKit Go.Proofs.YtjpbemomocccaaaW.PrintWords Go.Proofs.YtjpbemomocccaaaW.PrintLast Go.Proofs.YtjpbemomocccaaaW.PrintMore
attribute [local go_sem] max2_int min2_int max_two min_two max_three min_three max_four min_four
set_option linter.unusedVariables false
set_option linter.unusedSimpArgs false

/-- The rows with one more column: l. -/
def besideOne (rows : List (List Int)) (l : List Int) : List (List Int) := (List.range rows.length).map fun i => grp rows i ++ [l.getD i 0]
theorem besideOne_is (rows : List (List Int)) (l : List Int) : besideB rows [l] = besideOne rows l := rfl
theorem besideOne_length (rows : List (List Int)) (l : List Int) : (besideOne rows l).length = rows.length := by simp [besideOne]
theorem besideOne_grp {rows : List (List Int)} {l : List Int} {i : Nat} (hi : i < rows.length) : grp (besideOne rows l) i = grp rows i ++ [l.getD i 0] := by
  unfold besideOne grp
  exact getD_map _ _ _ _ hi
theorem RowP_list {p : Int} {l : List Int} (hp : 2 ≤ p) (h : elemsB p l = true) : RowP p l.length l := by
  refine ⟨rfl, fun j => ?_⟩
  by_cases hj : j < l.length
  · have := elemsB_get h j hj
    rw [List.getD_eq_getElem?_getD, List.getElem?_eq_getElem hj]
    exact this
  · rw [List.getD_eq_getElem?_getD, List.getElem?_eq_none (by omega)]
    show 0 ≤ (0 : Int) ∧ (0 : Int) ≤ p - 1
    omega
theorem besideOne_mat {p : Int} {C : Nat} {rows : List (List Int)} {l : List Int} (hp : 2 ≤ p) (hM : MatP p C rows) (he : RowP p rows.length l) : MatP p (C + 1) (besideOne rows l) := by
  intro i hi
  rw [besideOne_length] at hi
  rw [besideOne_grp hi]
  refine RowP_append (hM i hi) ⟨rfl, fun j => ?_⟩
  cases j with
  | zero => exact he.2 i
  | succ j => show 0 ≤ (0 : Int) ∧ (0 : Int) ≤ p - 1; omega
def solGo (C : Nat) (E : List (List Int)) (piv : List Int) : Nat → Nat → List Int → List Int × Bool
  | 0, _, out => (out, true)
  | d + 1, i, out => if rd piv (i : Int) = (C : Int) then ([], false) else solGo C E piv d (i + 1) (out.set (rd piv (i : Int)).toNat (rd (grp E i) (C : Int)))
theorem solGo_len (C : Nat) (E : List (List Int)) (piv : List Int) : ∀ (d i : Nat) (out : List Int), out.length ≤ C → (solGo C E piv d i out).1.length ≤ C := by
  intro d
  induction d with
  | zero => intro i out h; exact h
  | succ d ih =>
    intro i out h
    unfold solGo
    split
    · exact Nat.zero_le _
    · exact ih _ _ (by rw [List.length_set]; exact h)
theorem spec_sol_go {p : Int} {C : Nat} {E : List (List Int)} {piv : List Int} (hC : C ≤ 1000) (hE : MatP p (C + 1) E) (hlen : E.length = piv.length) (hl : piv.length ≤ 1000) (hpiv : ∀ j : Nat, j < piv.length → 0 ≤ rd piv (j : Int) ∧ rd piv (j : Int) < (C : Int) + 1) :
    ∀ (d i : Nat) (out : List Int), i + d = piv.length → out.length = C → Ev (fun k => spec_l03Solve.l0 k piv E (C : Int) out (i : Int)) (solGo C E piv d i out) := by
  intro d
  induction d with
  | zero =>
    intro i out hi ho
    refine Ev.step (f := fun _ => some (out, true)) (fun k => ?_) (Ev.now _)
    simp only [spec_l03Solve.l0]
    rw [if_neg (by omega)]
  | succ d ih =>
    intro i out hi ho
    have hpi := hpiv i (by omega)
    have hEl := (hE i (by omega)).1
    unfold solGo
    by_cases h : rd piv (i : Int) = (C : Int)
    · rw [if_pos h]
      refine Ev.step (f := fun _ => some ([], false)) (fun k => ?_) (Ev.now _)
      simp only [spec_l03Solve.l0]
      rw [if_pos (by omega), if_pos (by omega), if_pos h]
    · rw [if_neg h]
      refine Ev.step (fun k => ?_) (ih (i + 1) _ (by omega) (by rw [List.length_set]; exact ho))
      simp only [spec_l03Solve.l0]
      rw [if_pos (by omega), if_pos (by omega), if_neg h, if_pos (by omega), if_pos (by omega), rdL_cast, if_pos (by omega), if_pos (by omega), if_pos (by omega), wr (by omega) (by omega)]
      rfl
/-- The list whose products with all rows are l's. -/
def solveB (p : Int) (C : Nat) (rows : List (List Int)) (l : List Int) : List Int × Bool := solGo C (echB p (C + 1) (besideOne rows l)).1 (echB p (C + 1) (besideOne rows l)).2 (echB p (C + 1) (besideOne rows l)).2.length 0 (List.replicate C 0)
theorem solveB_len (p : Int) (C : Nat) (rows : List (List Int)) (l : List Int) : (solveB p C rows l).1.length ≤ C := solGo_len _ _ _ _ _ _ (by simp)
theorem ech_piv_rd (p : Int) (C : Nat) (rows : List (List Int)) (j : Nat) (hj : j < (echB p (C + 1) rows).2.length) : 0 ≤ rd (echB p (C + 1) rows).2 (j : Int) ∧ rd (echB p (C + 1) rows).2 (j : Int) < (C : Int) + 1 := by
  have := ech_piv_at p (C + 1) rows j hj
  rw [rd_cast]
  omega
theorem spec_l03Solve_ev {p : Int} {C : Nat} {rows : List (List Int)} {l : List Int} (hp : 2 ≤ p ∧ p ≤ 31) (hC : C ≤ 900) (hM : MatP p C rows) (hl : rows.length ≤ 900) (he : RowP p rows.length l) : Ev (fun k => spec_l03Solve.f k p (C : Int) rows l) (solveB p C rows l) := by
  unfold spec_l03Solve.f
  have hs := mat_small hM
  have hb := spec_l03Beside_ev (p := p) (a := (C : Int)) (rows := rows) (cols := [l]) (by omega) (by simp) (by omega) (fun r hr => by rw [hs r hr]; omega) (fun j hj => by
    obtain rfl : j = 0 := by simp at hj; omega
    show rows.length ≤ l.length
    rw [he.1]; exact Nat.le_refl _)
  rw [besideOne_is, List.length_singleton, ← Int.natCast_add] at hb
  have hW := besideOne_mat hp.1 hM he
  obtain ⟨m1, m2, m3⟩ := ech_mat hp.1 hW (by rw [besideOne_length]; omega)
  rw [besideOne_length] at m3
  refine Ev.bind hb (Ev.bind (spec_echelon_ev hp (by omega) hW (by rw [besideOne_length]; omega)) ?_)
  simp only [if_pos (show (0 : Int) ≤ (C : Int) by omega), Int.toNat_natCast, if_pos (show C ≤ 35184372088832 by omega)]
  exact spec_sol_go (by omega) m1 m2 (by omega) (ech_piv_rd p C _) (echB p (C + 1) (besideOne rows l)).2.length 0 (List.replicate C 0) (Nat.zero_add _) (by simp)
/-- The code of a matrix and a list of so many elements. -/
def askB (p cols : Int) (rows : List (List Int)) (l : List Int) (want : Int) : Int := if validMB p cols rows then (if rowB p want l then 0 else 2) else 1
theorem spec_l03Asked_ev (p cols : Int) (rows : List (List Int)) (l : List Int) (b : Bool) (hl : rows.length ≤ 4611686018427387904) (hr : ∀ r ∈ rows, r.length ≤ 4611686018427387904) (hll : l.length ≤ 4611686018427387904) : Ev (fun k => spec_l03Asked.f k p cols rows l b) (askB p cols rows l (if b then (rows.length : Int) else cols)) := by
  unfold spec_l03Asked.f askB
  refine Ev.bind (spec_l03Ok_ev p cols rows hl hr) ?_
  cases hv : validMB p cols rows with
  | false => exact Ev.now _
  | true =>
    obtain ⟨h1, _⟩ := MatP_of_valid hv
    simp only [if_true]
    cases b with
    | true =>
      simp only [if_true]
      refine Ev.bind (spec_l03Row_ev p _ l (by omega) hll) ?_
      cases rowB p (rows.length : Int) l <;> exact Ev.now _
    | false =>
      simp only [Bool.false_eq_true, if_false]
      refine Ev.bind (spec_l03Row_ev p _ l (by omega) hll) ?_
      cases rowB p cols l <;> exact Ev.now _
theorem impl_targetCode_ev (p cols : Int) (rows : List (List Int)) (l : List Int) (want : Int) (hl : rows.length ≤ 4611686018427387904) (hr : ∀ r ∈ rows, r.length ≤ 4611686018427387904) (hll : l.length ≤ 4611686018427387904) : Ev (fun k => impl_targetCode.f k p cols rows l want) (askB p cols rows l want) := by
  unfold impl_targetCode.f askB
  refine Ev.bind (impl_ValidMatrix_ev p cols rows hl hr) ?_
  cases hv : validMB p cols rows with
  | false => exact Ev.now _
  | true =>
    have hpr := prime_of_valid hv
    simp only [if_true]
    unfold rowB
    by_cases h : (l.length : Int) = want
    · simp only [if_pos h, decide_eq_true h, Bool.true_and]
      refine Ev.bind (impl_areElements_ev p l hll) ?_
      rw [hpr, Bool.true_and]
      cases elemsB p l <;> exact Ev.now _
    · simp only [if_neg h, decide_eq_false h, Bool.false_and]
      exact Ev.now _
theorem ask_parts {p cols : Int} {rows : List (List Int)} {l : List Int} {want : Int} (h : askB p cols rows l want = 0) : validMB p cols rows = true ∧ (l.length : Int) = want ∧ elemsB p l = true := by
  unfold askB at h
  cases hv : validMB p cols rows with
  | false => rw [hv] at h; simp at h
  | true =>
    rw [hv] at h
    simp only [if_true] at h
    cases hr : rowB p want l with
    | false => rw [hr] at h; simp at h
    | true =>
      unfold rowB at hr
      simp only [Bool.and_eq_true, decide_eq_true_eq] at hr
      exact ⟨rfl, hr.1, hr.2⟩
end Go.Proofs.Ytjpbemomocccaaa.P

namespace Go.Proofs.Ytjpbemomocccaaa.P
open Go.RowKit Go.Proofs.YtjpbemomocccaaaW.PrintWords Go.Proofs.YtjpbemomocccaaaW.PrintLast Go.Proofs.YtjpbemomocccaaaW.PrintMore
attribute [local go_sem] max2_int min2_int max_two min_two max_three min_three max_four min_four
set_option linter.unusedVariables false
set_option linter.unusedSimpArgs false

/-- The place of the first element that is not 0. -/
def leadN (l : List Int) : Nat := l.findIdx (fun a => a != 0)
theorem impl_first_ev (l : List Int) (hl : l.length ≤ 1000) : Ev (fun k => impl_first.f k l) (if leadN l < l.length then (leadN l : Int) else -1) := by
  unfold impl_first.f leadN
  have key : ∀ d i : Nat, i + d = l.length → Ev (fun k => idxI.l0 k impl_first_p l (i : Int)) (if i + (l.drop i).findIdx (fun a => a != 0) < l.length then ((i + (l.drop i).findIdx (fun a => a != 0) : Nat) : Int) else -1) := by
    intro d
    induction d with
    | zero =>
      intro i hi
      rw [if_neg (by omega)]
      refine Ev.step (f := fun _ => some (-1)) (fun k => ?_) (Ev.now _)
      simp only [idxI.l0]
      rw [if_neg (by omega)]
    | succ d ih =>
      intro i hi
      have hlt : i < l.length := by omega
      rw [List.drop_eq_getElem_cons hlt, List.findIdx_cons]
      by_cases h : l[i] = 0
      · have hb : (l[i] != 0) = false := by rw [h]; rfl
        rw [hb, cond_false]
        have := ih (i + 1) (by omega)
        rw [show i + ((l.drop (i + 1)).findIdx (fun a => a != 0) + 1) = i + 1 + (l.drop (i + 1)).findIdx (fun a => a != 0) by omega]
        refine Ev.step (fun k => ?_) this
        simp only [idxI.l0]
        rw [if_pos (by omega), if_pos (by omega), rd_nat l i hlt]
        simp only [impl_first_p, hb, Option.bind_some, Bool.false_eq_true, if_false]
        rw [wr (by omega) (by omega)]
        rfl
      · have hb : (l[i] != 0) = true := bne_iff_ne.mpr h
        rw [hb, cond_true, Nat.add_zero, if_pos hlt]
        refine Ev.step (f := fun _ => some (i : Int)) (fun k => ?_) (Ev.now _)
        simp only [idxI.l0]
        rw [if_pos (by omega), if_pos (by omega), rd_nat l i hlt]
        simp only [impl_first_p, hb, Option.bind_some, if_true]
  have := key l.length 0 (by omega)
  rw [List.drop_zero, Nat.zero_add] at this
  exact this
/-- One step of less: what is known is taken off a row. -/
def lessStep (p : Int) (x b : List Int × List Int) : List Int × List Int := (addB p x.1 b.1 (p - x.1.getD (leadN b.1) 0), addB p x.2 b.2 (p - x.1.getD (leadN b.1) 0))
def lessB (p : Int) (parts : List (List Int × List Int)) (x : List Int × List Int) : List Int × List Int := parts.foldl (lessStep p) x
def PartP (p : Int) (C n : Nat) (b : List Int × List Int) : Prop := RowP p C b.1 ∧ RowP p n b.2
theorem lessStep_P {p : Int} {C n : Nat} {x b : List Int × List Int} (hp : 2 ≤ p) (h : PartP p C n x) : PartP p C n (lessStep p x b) := ⟨addB_row hp h.1, addB_row hp h.2⟩
theorem combLess_ev {p : Int} {C n : Nat} (hp : 2 ≤ p ∧ p ≤ 31) (hC : C ≤ 1000) (hn : n ≤ 1000) {parts : List (List Int × List Int)} (hl : parts.length ≤ 1000) (hb : ∀ b ∈ parts, PartP p C n b ∧ leadN b.1 < C) :
    ∀ (d i : Nat) (x : List Int × List Int), i + d = parts.length → PartP p C n x → Ev (fun k => combLess k p parts x.1 x.2 (i : Int)) (lessB p (parts.drop i) x) := by
  intro d
  induction d with
  | zero =>
    intro i x hi hx
    rw [List.drop_eq_nil_of_le (by omega)]
    refine Ev.step (f := fun _ => some (x.1, x.2)) (fun k => ?_) (Ev.now _)
    simp only [combLess]
    rw [if_neg (by omega)]
  | succ d ih =>
    intro i x hi hx
    have hlt : i < parts.length := by omega
    obtain ⟨hbp, hbl⟩ := hb _ (List.getElem_mem hlt)
    have hpa : partAt parts (i : Int) = parts[i] := by unfold partAt; rw [Int.toNat_natCast, List.getD_eq_getElem?_getD, List.getElem?_eq_getElem hlt]; rfl
    rw [List.drop_eq_getElem_cons hlt]
    have hf := impl_first_ev parts[i].1 (by rw [hbp.1.1]; exact hC)
    rw [if_pos (by rw [hbp.1.1]; exact hbl)] at hf
    have hx1 := hx.1.1
    have hxv := hx.1.2 (leadN parts[i].1)
    have hnext := ih (i + 1) (lessStep p x parts[i]) (by omega) (lessStep_P hp.1 hx)
    refine Ev.step (f := fun k => (impl_first.f k parts[i].1).bind fun f => if 0 ≤ f then (if f < (x.1.length : Int) then (if rd x.1 f = 0 then combLess k p parts x.1 x.2 ((i + 1 : Nat) : Int) else ((impl_takeOff.f k p x.1 parts[i].1 (rd x.1 f)).bind fun row2 => ((impl_takeOff.f k p x.2 parts[i].2 (rd x.1 f)).bind fun from2 => combLess k p parts row2 from2 ((i + 1 : Nat) : Int)))) else none) else none) (fun k => ?_) (Ev.bind hf ?_)
    · simp only [combLess]
      rw [if_pos (by omega), if_pos (by omega), hpa, wr (by omega) (by omega)]
      rfl
    · simp only [if_pos (show (0 : Int) ≤ ((leadN parts[i].1 : Nat) : Int) by omega), if_pos (show ((leadN parts[i].1 : Nat) : Int) < (x.1.length : Int) by omega), rd_cast]
      by_cases h0 : x.1.getD (leadN parts[i].1) 0 = 0
      · simp only [if_pos h0]
        have e : lessStep p x parts[i] = x := by
          unfold lessStep
          rw [h0, Int.sub_zero, addB_p hp.1 hx.1, addB_p hp.1 hx.2]
        rw [e] at hnext
        show Ev _ (lessB p (parts.drop (i + 1)) (lessStep p x parts[i]))
        rw [e]
        exact hnext
      · simp only [if_neg h0]
        exact Ev.bind (impl_takeOff_ev hp hC hx.1 hbp.1 (by omega)) (Ev.bind (impl_takeOff_ev hp hn hx.2 hbp.2 (by omega)) hnext)
/-- x's row is t and the sum of the rows by x's elements. -/
def MadeOf (p : Int) (C : Nat) (rows : List (List Int)) (t : Nat → Int) (x : List Int × List Int) : Prop := ∀ j, j < C → Eqm p (elm x.1 j) (t j + sumN rows.length (fun r => elm x.2 r * elm (grp rows r) j))
theorem lessStep_made {p : Int} {C n : Nat} {rows : List (List Int)} {t : Nat → Int} {x b : List Int × List Int} (hrn : rows.length = n) (hx : PartP p C n x) (hb : PartP p C n b) (h : MadeOf p C rows t x) (h2 : MadeOf p C rows (fun _ => 0) b) : MadeOf p C rows t (lessStep p x b) := by
  intro j hj
  have e1 : Eqm p (elm (lessStep p x b).1 j) (elm x.1 j + elm b.1 j * (p - x.1.getD (leadN b.1) 0)) := elm_add hx.1.1 hb.1.1
  refine Eqm.trans e1 ?_
  refine Eqm.trans (Eqm.add (h j hj) (Eqm.mul (h2 j hj) (Eqm.rfl_ _ _))) ?_
  have e2 : Eqm p (sumN rows.length (fun r => elm (lessStep p x b).2 r * elm (grp rows r) j)) (sumN rows.length (fun r => (elm x.2 r + elm b.2 r * (p - x.1.getD (leadN b.1) 0)) * elm (grp rows r) j)) :=
    Eqm.sumN_ fun r _ => Eqm.mul (elm_add hx.2.1 hb.2.1) (Eqm.rfl_ _ _)
  refine Eqm.trans ?_ (Eqm.add (Eqm.rfl_ _ _) (Eqm.symm e2))
  refine Eqm.of_eq ?_
  have e3 : sumN rows.length (fun r => (elm x.2 r + elm b.2 r * (p - x.1.getD (leadN b.1) 0)) * elm (grp rows r) j) = sumN rows.length (fun r => elm x.2 r * elm (grp rows r) j) + (p - x.1.getD (leadN b.1) 0) * sumN rows.length (fun r => elm b.2 r * elm (grp rows r) j) := by
    rw [← sumN_mul, ← sumN_add]
    exact sumN_congr fun r _ => by grind
  rw [e3]
  grind
def ptB (parts : List (List Int × List Int)) (s : Nat) : List Int × List Int := parts.getD s ([], [])
theorem lessB_take {p : Int} {parts : List (List Int × List Int)} {x : List Int × List Int} {m : Nat} (hm : m < parts.length) : lessB p (parts.take (m + 1)) x = lessStep p (lessB p (parts.take m) x) (ptB parts m) := by
  unfold lessB ptB
  rw [List.take_add_one, List.getElem?_eq_getElem hm, List.foldl_append, List.getD_eq_getElem?_getD, List.getElem?_eq_getElem hm]
  rfl
structure BasisP (p : Int) (C n : Nat) (rows : List (List Int)) (parts : List (List Int × List Int)) : Prop where
  part : ∀ s, s < parts.length → PartP p C n (ptB parts s)
  lead : ∀ s, s < parts.length → leadN (ptB parts s).1 < C
  one : ∀ s, s < parts.length → elm (ptB parts s).1 (leadN (ptB parts s).1) = 1
  made : ∀ s, s < parts.length → MadeOf p C rows (fun _ => 0) (ptB parts s)
  tri : ∀ t s, t < s → s < parts.length → elm (ptB parts s).1 (leadN (ptB parts t).1) = 0
theorem less_facts {p : Int} {C n : Nat} {rows : List (List Int)} {parts : List (List Int × List Int)} {t : Nat → Int} {x : List Int × List Int} (hp : 2 ≤ p) (hrn : rows.length = n) (hB : BasisP p C n rows parts) (hx : PartP p C n x) (hm : MadeOf p C rows t x) :
    ∀ m, m ≤ parts.length → PartP p C n (lessB p (parts.take m) x) ∧ MadeOf p C rows t (lessB p (parts.take m) x) ∧ (∀ s, s < m → elm (lessB p (parts.take m) x).1 (leadN (ptB parts s).1) = 0) ∧ ∃ c : Nat → Int, ∀ j, j < C → Eqm p (elm (lessB p (parts.take m) x).1 j) (elm x.1 j + sumN m (fun s => c s * elm (ptB parts s).1 j)) := by
  intro m
  induction m with
  | zero => intro _; exact ⟨hx, hm, fun s hs => absurd hs (by omega), fun _ => 0, fun j _ => Eqm.of_eq (by show elm x.1 j = elm x.1 j + 0; omega)⟩
  | succ m ih =>
    intro hle
    obtain ⟨i1, i2, i3, c, i4⟩ := ih (by omega)
    have hlt : m < parts.length := by omega
    rw [lessB_take hlt]
    have hb := hB.part m hlt
    have hP := lessStep_P (b := ptB parts m) hp i1
    have e1 : ∀ j, Eqm p (elm (lessStep p (lessB p (parts.take m) x) (ptB parts m)).1 j) (elm (lessB p (parts.take m) x).1 j + elm (ptB parts m).1 j * (p - elm (lessB p (parts.take m) x).1 (leadN (ptB parts m).1))) := fun j => elm_add i1.1.1 hb.1.1
    refine ⟨hP, lessStep_made hrn i1 hb i2 (hB.made m hlt), fun s hs => ?_, fun s => if s = m then p - elm (lessB p (parts.take m) x).1 (leadN (ptB parts m).1) else c s, fun j hj => ?_⟩
    · have hr := hP.1.2 (leadN (ptB parts s).1)
      refine Eqm.eq_of (p := p) (Eqm.trans (e1 _) ?_) hr (by omega)
      by_cases h : s = m
      · subst h
        rw [hB.one s hlt]
        exact Eqm.trans (Eqm.of_eq (by omega)) (Eqm.p_ p)
      · rw [i3 s (by omega), hB.tri s m (by omega) hlt]
        exact Eqm.of_eq (by omega)
    · refine Eqm.trans (e1 j) (Eqm.trans (Eqm.add (i4 j hj) (Eqm.rfl_ _ _)) (Eqm.of_eq ?_))
      show _ = elm x.1 j + (sumN m (fun s => (if s = m then p - elm (lessB p (parts.take m) x).1 (leadN (ptB parts m).1) else c s) * elm (ptB parts s).1 j) + (if m = m then p - elm (lessB p (parts.take m) x).1 (leadN (ptB parts m).1) else c m) * elm (ptB parts m).1 j)
      have e5 : sumN m (fun s => (if s = m then p - elm (lessB p (parts.take m) x).1 (leadN (ptB parts m).1) else c s) * elm (ptB parts s).1 j) = sumN m (fun s => c s * elm (ptB parts s).1 j) := sumN_congr fun s hs => by rw [if_neg (by omega)]
      rw [e5, if_pos rfl, Int.mul_comm (p - _), Int.add_assoc]
/-- A vector that lies in the span of the basis. -/
def SpanB (p : Int) (C : Nat) (parts : List (List Int × List Int)) (v : Nat → Int) : Prop := ∃ c : Nat → Int, ∀ j, j < C → Eqm p (v j) (sumN parts.length (fun s => c s * elm (ptB parts s).1 j))
theorem span_zero {p : Int} {C n : Nat} {rows : List (List Int)} {parts : List (List Int × List Int)} {v : Nat → Int} (hB : BasisP p C n rows parts) (hv : SpanB p C parts v) (h0 : ∀ s, s < parts.length → Eqm p (v (leadN (ptB parts s).1)) 0) : ∀ j, j < C → Eqm p (v j) 0 := by
  obtain ⟨c, hc⟩ := hv
  have key : ∀ m s, s < m → s < parts.length → Eqm p (c s) 0 := by
    intro m
    induction m with
    | zero => intro s hs; omega
    | succ m ih =>
      intro s hs hsl
      have h1 := Eqm.trans (Eqm.symm (hc _ (hB.lead s hsl))) (h0 s hsl)
      rw [sumN_apart hsl, hB.one s hsl] at h1
      have h2 : Eqm p (sumN parts.length (fun k => if k = s then 0 else c k * elm (ptB parts k).1 (leadN (ptB parts s).1))) 0 := by
        refine Eqm.trans (Eqm.sumN_ (g := fun _ => 0) fun k hk => ?_) (Eqm.of_eq (sumN_zero fun _ _ => rfl))
        by_cases hks : k = s
        · rw [if_pos hks]; exact Eqm.rfl_ _ _
        · rw [if_neg hks]
          rcases Nat.lt_or_gt_of_ne hks with h | h
          · exact Eqm.trans (Eqm.mul (ih k (by omega) hk) (Eqm.rfl_ _ _)) (Eqm.of_eq (by omega))
          · rw [hB.tri s k h hk]; exact Eqm.of_eq (by omega)
      have h3 := Eqm.sub h1 h2
      exact Eqm.trans (Eqm.of_eq (by grind)) h3
  intro j hj
  refine Eqm.trans (hc j hj) (Eqm.trans (Eqm.sumN_ (g := fun _ => 0) fun s hs => ?_) (Eqm.of_eq (sumN_zero fun _ _ => rfl)))
  exact Eqm.trans (Eqm.mul (key (s + 1) s (by omega) hs) (Eqm.rfl_ _ _)) (Eqm.of_eq (by omega))

end Go.Proofs.Ytjpbemomocccaaa.P

namespace Go.Proofs.Ytjpbemomocccaaa.P
open Go.RowKit Go.Proofs.YtjpbemomocccaaaW.PrintWords Go.Proofs.YtjpbemomocccaaaW.PrintLast Go.Proofs.YtjpbemomocccaaaW.PrintMore
attribute [local go_sem] max2_int min2_int max_two min_two max_three min_three max_four min_four
set_option linter.unusedVariables false
set_option linter.unusedSimpArgs false

theorem span_add {p : Int} {C : Nat} {parts : List (List Int × List Int)} {v w : Nat → Int} {a : Int} (hv : SpanB p C parts v) (hw : SpanB p C parts w) : SpanB p C parts (fun j => v j + a * w j) := by
  obtain ⟨c, hc⟩ := hv
  obtain ⟨d, hd⟩ := hw
  refine ⟨fun s => c s + a * d s, fun j hj => ?_⟩
  refine Eqm.trans (Eqm.add (hc j hj) (Eqm.mul (Eqm.rfl_ _ _) (hd j hj))) (Eqm.of_eq ?_)
  rw [← sumN_mul, ← sumN_add]
  exact sumN_congr fun s _ => by grind
theorem span_nil {p : Int} {C : Nat} {parts : List (List Int × List Int)} : SpanB p C parts (fun _ => 0) := ⟨fun _ => 0, fun j _ => Eqm.of_eq (sumN_zero fun _ _ => Int.zero_mul _).symm⟩
theorem span_eq {p : Int} {C : Nat} {parts : List (List Int × List Int)} {v w : Nat → Int} (h : ∀ j, j < C → Eqm p (v j) (w j)) (hw : SpanB p C parts w) : SpanB p C parts v := by
  obtain ⟨c, hc⟩ := hw
  exact ⟨c, fun j hj => Eqm.trans (h j hj) (hc j hj)⟩
theorem span_sum {p : Int} {C : Nat} {parts : List (List Int × List Int)} {c : Nat → Int} {f : Nat → Nat → Int} : ∀ m, (∀ r, r < m → SpanB p C parts (f r)) → SpanB p C parts (fun j => sumN m (fun r => c r * f r j)) := by
  intro m
  induction m with
  | zero => intro _; exact span_nil
  | succ m ih => intro h; exact span_add (ih fun r hr => h r (by omega)) (h m (by omega))
theorem ptB_snoc (parts : List (List Int × List Int)) (b : List Int × List Int) (s : Nat) : ptB (parts ++ [b]) s = if s < parts.length then ptB parts s else if s = parts.length then b else ([], []) := by
  unfold ptB
  rw [getD_append]
  by_cases h : s < parts.length
  · rw [if_pos h, if_pos h]
  · rw [if_neg h, if_neg h]
    by_cases h2 : s = parts.length
    · subst h2; rw [if_pos rfl, Nat.sub_self]; rfl
    · rw [if_neg h2, List.getD_eq_getElem?_getD, List.getElem?_eq_none (by simp; omega)]; rfl
theorem span_snoc {p : Int} {C : Nat} {parts : List (List Int × List Int)} {b : List Int × List Int} {v : Nat → Int} (h : SpanB p C parts v) : SpanB p C (parts ++ [b]) v := by
  obtain ⟨c, hc⟩ := h
  refine ⟨fun s => if s < parts.length then c s else 0, fun j hj => ?_⟩
  refine Eqm.trans (hc j hj) (Eqm.of_eq ?_)
  rw [List.length_append, List.length_singleton]
  show _ = sumN parts.length _ + (if parts.length < parts.length then c parts.length else 0) * _
  rw [if_neg (by omega), Int.zero_mul, Int.add_zero]
  exact sumN_congr fun s hs => by show _ = (if s < parts.length then c s else 0) * _; rw [if_pos hs, ptB_snoc, if_pos hs]
theorem span_last {p : Int} {C : Nat} {parts : List (List Int × List Int)} {b : List Int × List Int} : SpanB p C (parts ++ [b]) (elm b.1) := by
  refine ⟨fun s => if s = parts.length then 1 else 0, fun j hj => Eqm.of_eq ?_⟩
  rw [List.length_append, List.length_singleton]
  show _ = sumN parts.length _ + (if parts.length = parts.length then (1 : Int) else 0) * _
  rw [if_pos rfl, ptB_snoc, if_neg (by omega), if_pos rfl, sumN_zero fun s hs => by show (if s = parts.length then (1 : Int) else 0) * _ = 0; rw [if_neg (by omega), Int.zero_mul]]
  omega
theorem leadN_ne {l : List Int} (h : leadN l < l.length) : elm l (leadN l) ≠ 0 := by
  unfold elm leadN at *
  have := List.findIdx_getElem (w := h)
  rw [List.getD_eq_getElem?_getD, List.getElem?_eq_getElem h]
  simpa using this
theorem leadN_none {l : List Int} (h : ¬ leadN l < l.length) : ∀ j, elm l j = 0 := by
  intro j
  unfold elm
  by_cases hj : j < l.length
  · have h1 : leadN l = l.length := by
      have := List.findIdx_le_length (p := fun a => a != 0) (xs := l)
      unfold leadN at *
      omega
    unfold leadN at h1
    rw [List.findIdx_eq_length] at h1
    have h2 := h1 l[j] (List.getElem_mem hj)
    rw [List.getD_eq_getElem?_getD, List.getElem?_eq_getElem hj]
    simpa using h2
  · rw [List.getD_eq_getElem?_getD, List.getElem?_eq_none (by omega)]; rfl
/-- A row put behind the basis, if anything is left of it. -/
def putB (p : Int) (parts : List (List Int × List Int)) (x : List Int × List Int) : List (List Int × List Int) := if leadN x.1 < x.1.length then parts ++ [(timesB p (invB p (elm x.1 (leadN x.1))) x.1, timesB p (invB p (elm x.1 (leadN x.1))) x.2)] else parts
def takeRow (p : Int) (n : Nat) (rows : List (List Int)) (parts : List (List Int × List Int)) (i : Nat) : List (List Int × List Int) := putB p parts (lessB p parts (grp rows i, unitB n i))
def basisB (p : Int) (n : Nat) (rows : List (List Int)) : List (List Int × List Int) := (List.range n).foldl (takeRow p n rows) []
theorem findIdx_same {α : Type} {q q' : α → Bool} : ∀ {l : List α}, (∀ a ∈ l, q a = q' a) → l.findIdx q = l.findIdx q'
  | [], _ => rfl
  | a :: l, h => by rw [List.findIdx_cons, List.findIdx_cons, h a (List.mem_cons_self ..), findIdx_same fun b hb => h b (List.mem_cons_of_mem _ hb)]
theorem timesB_lead {p b : Int} {C : Nat} {l : List Int} (hp : 2 ≤ p) (hr : RowP p C l) (h : ∀ j, elm (timesB p b l) j = 0 → elm l j = 0) : leadN (timesB p b l) = leadN l := by
  have hlen : (timesB p b l).length = l.length := by simp [timesB]
  have he : ∀ j, elm l j = 0 → elm (timesB p b l) j = 0 := by
    intro j hj
    by_cases hjl : j < l.length
    · unfold elm timesB at *
      rw [getD_map _ _ _ _ hjl, hj, Int.zero_mul]; exact Int.zero_emod _
    · unfold elm
      rw [List.getD_eq_getElem?_getD, List.getElem?_eq_none (by omega)]; rfl
  unfold leadN
  rw [show timesB p b l = l.map (fun a => a * b % p) from by
    refine list_eq_getD 0 (by simp [timesB]) fun j hj => ?_
    rw [hlen] at hj
    unfold timesB
    rw [getD_map _ _ _ _ hj, List.getD_eq_getElem?_getD, List.getD_eq_getElem?_getD, List.getElem?_map, List.getElem?_eq_getElem hj]; rfl]
  rw [List.findIdx_map]
  refine findIdx_same fun a ha => ?_
  obtain ⟨j, hj, rfl⟩ := List.getElem_of_mem ha
  have e1 : elm l j = l[j] := by unfold elm; rw [List.getD_eq_getElem?_getD, List.getElem?_eq_getElem hj]; rfl
  have e2 : elm (timesB p b l) j = l[j] * b % p := by unfold elm timesB; rw [getD_map _ _ _ _ hj, List.getD_eq_getElem?_getD, List.getElem?_eq_getElem hj]; rfl
  show ((l[j] * b % p) != 0) = (l[j] != 0)
  rw [← e2, ← e1]
  by_cases h0 : elm l j = 0
  · rw [h0, he j h0]
  · rw [bne_iff_ne.mpr h0, bne_iff_ne.mpr (fun h2 => h0 (h j h2))]
/-- Row r is no sum of the rows ahead of it. -/
def FreeP (p : Int) (C : Nat) (rows : List (List Int)) (r : Nat) : Prop := ¬ ∃ c : Nat → Int, ∀ j, j < C → Eqm p (elm (grp rows r) j) (sumN r (fun u => c u * elm (grp rows u) j))
structure FullP (p : Int) (C n : Nat) (rows : List (List Int)) (i : Nat) (parts : List (List Int × List Int)) : Prop where
  basis : BasisP p C n rows parts
  seen : ∀ r, r < i → SpanB p C parts (elm (grp rows r))
  sup : ∀ s, s < parts.length → ∀ r, ¬ FreeP p C rows r → elm (ptB parts s).2 r = 0
  small : parts.length ≤ i
theorem elm_addB_zero {p t : Int} {u v : List Int} {r : Nat} (hu : elm u r = 0) (hv : elm v r = 0) : elm (addB p u v t) r = 0 := by
  unfold elm at *
  by_cases h : r < u.length
  · unfold addB
    rw [getD_map _ _ _ _ h, hu, hv, Int.zero_mul, Int.zero_add]
    exact Int.zero_emod _
  · rw [List.getD_eq_getElem?_getD, List.getElem?_eq_none (by simp [addB]; omega)]; rfl
theorem elm_timesB_zero {p t : Int} {u : List Int} {r : Nat} (hu : elm u r = 0) : elm (timesB p t u) r = 0 := by
  unfold elm at *
  by_cases h : r < u.length
  · unfold timesB
    rw [getD_map _ _ _ _ h, hu, Int.zero_mul]
    exact Int.zero_emod _
  · rw [List.getD_eq_getElem?_getD, List.getElem?_eq_none (by simp [timesB]; omega)]; rfl
theorem less_sup {p : Int} {r : Nat} {parts : List (List Int × List Int)} {x : List Int × List Int} (hx : elm x.2 r = 0) (hs : ∀ s, s < parts.length → elm (ptB parts s).2 r = 0) : ∀ m, m ≤ parts.length → elm (lessB p (parts.take m) x).2 r = 0 := by
  intro m
  induction m with
  | zero => intro _; exact hx
  | succ m ih =>
    intro hm
    rw [lessB_take (by omega)]
    exact elm_addB_zero (ih (by omega)) (hs m (by omega))
theorem unit_made {p : Int} {C n i : Nat} {rows : List (List Int)} (hrn : rows.length = n) (hi : i < n) : MadeOf p C rows (fun _ => 0) (grp rows i, unitB n i) := by
  intro j hj
  refine Eqm.of_eq ?_
  show elm (grp rows i) j = 0 + sumN rows.length (fun r => elm (unitB n i) r * elm (grp rows r) j)
  have e0 : sumN rows.length (fun k => if k = i then 0 else elm (unitB n i) k * elm (grp rows k) j) = 0 := sumN_zero fun k hk => by
    by_cases h1 : k = i
    · rw [if_pos h1]
    · rw [if_neg h1]
      unfold elm
      rw [unitB_getD hi, if_neg h1, Int.zero_mul]
  rw [sumN_apart (a := i) (by omega), e0]
  have : elm (unitB n i) i = 1 := by unfold elm; rw [unitB_getD hi, if_pos rfl]
  rw [this]
  omega
theorem full_start (p : Int) (C n : Nat) (rows : List (List Int)) : FullP p C n rows 0 [] := ⟨⟨fun s hs => absurd hs (by simp), fun s hs => absurd hs (by simp), fun s hs => absurd hs (by simp), fun s hs => absurd hs (by simp), fun t s _ hs => absurd hs (by simp)⟩, fun r hr => absurd hr (by omega), fun s hs => absurd hs (by simp), Nat.le_refl _⟩
theorem full_step {p : Int} {C n i : Nat} {rows : List (List Int)} {parts : List (List Int × List Int)} (hpr : primeB p = true) (hM : MatP p C rows) (hrn : rows.length = n) (hi : i < n) (h : FullP p C n rows i parts) : FullP p C n rows (i + 1) (takeRow p n rows parts i) := by
  have hp := primeB_range hpr
  have hx0 : PartP p C n (grp rows i, unitB n i) := ⟨hM i (by omega), RowP_set (RowP_zero hp.1 n) hi (by omega)⟩
  obtain ⟨f1, f2, f3, c, f4⟩ := less_facts hp.1 hrn h.basis hx0 (unit_made hrn hi) parts.length (Nat.le_refl _)
  rw [List.take_length] at f1 f2 f3 f4
  have fs : ∀ r, ¬ FreeP p C rows r → r ≠ i → elm (lessB p parts (grp rows i, unitB n i)).2 r = 0 := fun r hr hri => by
    have := less_sup (p := p) (r := r) (parts := parts) (x := (grp rows i, unitB n i)) (by show elm (unitB n i) r = 0; unfold elm; rw [unitB_getD hi, if_neg hri]) (fun s hs => h.sup s hs r hr) parts.length (Nat.le_refl _)
    rwa [List.take_length] at this
  unfold takeRow putB
  generalize lessB p parts (grp rows i, unitB n i) = x at *
  replace f4 : ∀ j, j < C → Eqm p (elm x.1 j) (elm (grp rows i) j + sumN parts.length (fun s => c s * elm (ptB parts s).1 j)) := f4
  -- what is left lies in the span, up to row i
  have hspan : ∀ v, SpanB p C parts v → SpanB p C parts (fun j => v j + sumN parts.length (fun s => c s * elm (ptB parts s).1 j)) := fun v hv => by
    have := span_add (a := 1) hv (⟨c, fun j _ => Eqm.rfl_ _ _⟩ : SpanB p C parts (fun j => sumN parts.length (fun s => c s * elm (ptB parts s).1 j)))
    exact span_eq (fun j _ => Eqm.of_eq (by rw [Int.one_mul])) this
  have hxz : SpanB p C parts (elm (grp rows i)) → ∀ j, j < C → elm x.1 j = 0 := fun hs j hj => by
    have h1 := span_zero h.basis (span_eq f4 (hspan _ hs)) (fun s hs2 => Eqm.of_eq (f3 s hs2)) j hj
    exact Eqm.eq_of h1 (f1.1.2 j) (by omega)
  by_cases hl : leadN x.1 < x.1.length
  · rw [if_pos hl]
    have hne := leadN_ne hl
    have hC1 : leadN x.1 < C := by have := f1.1.1; omega
    have hlr := f1.1.2 (leadN x.1)
    have hinv := inv_eqm hpr hlr hne
    have hfree : FreeP p C rows i := fun ⟨d, hd⟩ => hne (hxz (span_eq hd (span_sum i fun r hr => h.seen r hr)) _ hC1)
    have hb1 : ∀ j, Eqm p (elm (timesB p (invB p (elm x.1 (leadN x.1))) x.1) j) (elm x.1 j * invB p (elm x.1 (leadN x.1))) := fun j => elm_times
    have hb2 : ∀ j, Eqm p (elm (timesB p (invB p (elm x.1 (leadN x.1))) x.2) j) (elm x.2 j * invB p (elm x.1 (leadN x.1))) := fun j => elm_times
    have hback : ∀ j, Eqm p (elm x.1 j) (elm (timesB p (invB p (elm x.1 (leadN x.1))) x.1) j * elm x.1 (leadN x.1)) := fun j => by
      refine Eqm.symm (Eqm.trans (Eqm.mul (hb1 j) (Eqm.rfl_ _ _)) ?_)
      refine Eqm.trans (Eqm.of_eq (?_ : _ = elm x.1 j * (elm x.1 (leadN x.1) * invB p (elm x.1 (leadN x.1))))) ?_
      · grind
      · exact Eqm.trans (Eqm.mul (Eqm.rfl_ _ _) hinv) (Eqm.of_eq (Int.mul_one _))
    have hld : leadN (timesB p (invB p (elm x.1 (leadN x.1))) x.1) = leadN x.1 := timesB_lead hp.1 f1.1 fun j hj => by
      have := hback j
      rw [hj, Int.zero_mul] at this
      exact Eqm.eq_of this (f1.1.2 j) (by omega)
    have hpt : ∀ s, s < parts.length → ptB (parts ++ [(timesB p (invB p (elm x.1 (leadN x.1))) x.1, timesB p (invB p (elm x.1 (leadN x.1))) x.2)]) s = ptB parts s := fun s hs => by rw [ptB_snoc, if_pos hs]
    have hpl : ptB (parts ++ [(timesB p (invB p (elm x.1 (leadN x.1))) x.1, timesB p (invB p (elm x.1 (leadN x.1))) x.2)]) parts.length = (timesB p (invB p (elm x.1 (leadN x.1))) x.1, timesB p (invB p (elm x.1 (leadN x.1))) x.2) := by rw [ptB_snoc, if_neg (by omega), if_pos rfl]
    have hcase : ∀ s, s < (parts ++ [(timesB p (invB p (elm x.1 (leadN x.1))) x.1, timesB p (invB p (elm x.1 (leadN x.1))) x.2)]).length → s < parts.length ∨ s = parts.length := fun s hs => by simp at hs; omega
    refine ⟨⟨fun s hs => ?_, fun s hs => ?_, fun s hs => ?_, fun s hs => ?_, fun t s hts hs => ?_⟩, fun r hr => ?_, fun s hs r hr => ?_, ?_⟩
    · rcases hcase s hs with h1 | rfl
      · rw [hpt s h1]; exact h.basis.part s h1
      · rw [hpl]; exact ⟨timesB_row hp.1 f1.1, timesB_row hp.1 f1.2⟩
    · rcases hcase s hs with h1 | rfl
      · rw [hpt s h1]; exact h.basis.lead s h1
      · rw [hpl, hld]; exact hC1
    · rcases hcase s hs with h1 | rfl
      · rw [hpt s h1]; exact h.basis.one s h1
      · rw [hpl, hld]
        refine Eqm.eq_of (Eqm.trans (hb1 _) hinv) ((timesB_row hp.1 f1.1).2 _) (by omega)
    · rcases hcase s hs with h1 | rfl
      · rw [hpt s h1]; exact h.basis.made s h1
      · rw [hpl]
        intro j hj
        refine Eqm.trans (hb1 j) (Eqm.trans (Eqm.mul (f2 j hj) (Eqm.rfl_ _ _)) (Eqm.trans (Eqm.of_eq ?_) (Eqm.add (Eqm.rfl_ _ _) (Eqm.sumN_ fun r _ => Eqm.mul (Eqm.symm (hb2 r)) (Eqm.rfl_ _ _)))))
        rw [Int.zero_add, Int.zero_add, Int.mul_comm, ← sumN_mul]
        exact sumN_congr fun r _ => by grind
    · rcases hcase s hs with h1 | rfl
      · rw [hpt s h1, hpt t (by omega)]; exact h.basis.tri t s hts h1
      · rw [hpl, hpt t hts]; exact elm_timesB_zero (f3 t hts)
    · rcases Nat.lt_or_ge r i with h1 | h1
      · exact span_snoc (h.seen r h1)
      · obtain rfl : r = i := by omega
        refine span_eq (w := fun j => (0 + elm x.1 (leadN x.1) * elm (timesB p (invB p (elm x.1 (leadN x.1))) x.1) j) + (-1) * sumN parts.length (fun s => c s * elm (ptB parts s).1 j)) (fun j hj => ?_) (span_add (span_add span_nil span_last) (span_snoc ⟨c, fun j _ => Eqm.rfl_ _ _⟩))
        have e1 := Eqm.sub (Eqm.trans (Eqm.symm (f4 j hj)) (hback j)) (Eqm.rfl_ p (sumN parts.length (fun s => c s * elm (ptB parts s).1 j)))
        exact Eqm.trans (Eqm.of_eq (by show elm (grp rows r) j = _; omega)) (Eqm.trans e1 (Eqm.of_eq (by grind)))
    · rcases hcase s hs with h1 | rfl
      · rw [hpt s h1]; exact h.sup s h1 r hr
      · rw [hpl]
        exact elm_timesB_zero (fs r hr fun e => hr (e ▸ hfree))
    · simp; have := h.small; omega
  · rw [if_neg hl]
    have hz := leadN_none hl
    refine ⟨h.basis, fun r hr => ?_, h.sup, by have := h.small; omega⟩
    rcases Nat.lt_or_ge r i with h1 | h1
    · exact h.seen r h1
    · obtain rfl : r = i := by omega
      refine span_eq (w := fun j => 0 + (-1) * sumN parts.length (fun s => c s * elm (ptB parts s).1 j)) (fun j hj => ?_) (span_add span_nil ⟨c, fun j _ => Eqm.rfl_ _ _⟩)
      have e1 := Eqm.sub (Eqm.symm (f4 j hj)) (Eqm.rfl_ p (sumN parts.length (fun s => c s * elm (ptB parts s).1 j)))
      rw [hz j] at e1
      exact Eqm.trans (Eqm.of_eq (by show elm (grp rows r) j = _; omega)) (Eqm.trans e1 (Eqm.of_eq (by grind)))
theorem full_all {p : Int} {C n : Nat} {rows : List (List Int)} (hpr : primeB p = true) (hM : MatP p C rows) (hrn : rows.length = n) : ∀ i, i ≤ n → FullP p C n rows i ((List.range i).foldl (takeRow p n rows) []) := by
  intro i
  induction i with
  | zero => intro _; exact full_start p C n rows
  | succ i ih =>
    intro hi
    rw [List.range_succ, List.foldl_append]
    exact full_step hpr hM hrn (by omega) (ih (by omega))

end Go.Proofs.Ytjpbemomocccaaa.P

namespace Go.Proofs.Ytjpbemomocccaaa.P
open Go.RowKit Go.Proofs.YtjpbemomocccaaaW.PrintWords Go.Proofs.YtjpbemomocccaaaW.PrintLast Go.Proofs.YtjpbemomocccaaaW.PrintMore
attribute [local go_sem] max2_int min2_int max_two min_two max_three min_three max_four min_four
set_option linter.unusedVariables false
set_option linter.unusedSimpArgs false

theorem sumN_both (n m : Nat) (f : Nat → Nat → Int) : sumN n (fun i => sumN m (fun j => f i j)) = sumN m (fun j => sumN n (fun i => f i j)) := by
  induction n with
  | zero => exact (sumN_zero fun _ _ => rfl).symm
  | succ n ih =>
    show sumN n _ + sumN m _ = _
    rw [ih, ← sumN_add]
    rfl
theorem sumN_only {n a : Nat} (ha : a < n) (f : Nat → Int) : sumN n (fun i => if i = a then f i else 0) = f a := by
  rw [sumN_apart ha, sumN_zero fun i _ => by by_cases h : i = a <;> simp [h]]
  simp
/-- The vector that is 1 at r and takes r's column off the pivots. -/
def colZ (E : List (List Int)) (piv : List Int) (r u : Nat) : Int := (if u = r then 1 else 0) - sumN piv.length (fun k => if u = (rd piv (k : Int)).toNat then elm (grp E k) r else 0)
theorem colZ_ker {p : Int} {D r : Nat} {s : List (List Int) × List Int} (hR : RrefP p D D s) (hle : s.2.length ≤ s.1.length) (hr : r < D) : KerP p D s.1 (colZ s.1 s.2 r) := by
  intro i hi
  refine Eqm.of_eq ?_
  unfold dotZ
  have e1 : sumN D (fun u => elm (grp s.1 i) u * colZ s.1 s.2 r u) = sumN D (fun u => (if u = r then elm (grp s.1 i) u else 0) + (-1) * sumN s.2.length (fun k => if u = (rd s.2 (k : Int)).toNat then elm (grp s.1 i) u * elm (grp s.1 k) r else 0)) := by
    refine sumN_congr fun u _ => ?_
    unfold colZ
    have e2 : sumN s.2.length (fun k => if u = (rd s.2 (k : Int)).toNat then elm (grp s.1 i) u * elm (grp s.1 k) r else 0) = elm (grp s.1 i) u * sumN s.2.length (fun k => if u = (rd s.2 (k : Int)).toNat then elm (grp s.1 k) r else 0) := by
      rw [← sumN_mul]
      exact sumN_congr fun k _ => by split <;> simp
    rw [e2]
    by_cases h : u = r
    · rw [if_pos h, if_pos h]; grind
    · rw [if_neg h, if_neg h]; grind
  rw [e1, sumN_add, sumN_only hr, sumN_mul, sumN_both]
  have e3 : sumN s.2.length (fun k => sumN D (fun u => if u = (rd s.2 (k : Int)).toNat then elm (grp s.1 i) u * elm (grp s.1 k) r else 0)) = sumN s.2.length (fun k => if k = i then elm (grp s.1 k) r else 0) := by
    refine sumN_congr fun k hk => ?_
    have hlt := hR.lt k hk
    rw [sumN_only (a := (rd s.2 (k : Int)).toNat) (by omega) (fun u => elm (grp s.1 i) u * elm (grp s.1 k) r)]
    have hd := hR.delta k hk i hi
    rw [hd]
    by_cases h : i = k
    · rw [if_pos h, if_pos h.symm]; omega
    · rw [if_neg h, if_neg (Ne.symm h)]; omega
  rw [e3]
  by_cases h : i < s.2.length
  · rw [sumN_only h (fun k => elm (grp s.1 k) r)]; omega
  · rw [sumN_zero fun k hk => by rw [if_neg (by omega)]]
    rw [hR.zero i (by omega) hi r hr]
    rfl
theorem colZ_high {p : Int} {D r u : Nat} {s : List (List Int) × List Int} (hR : RrefP p D D s) (hu : r < u) : colZ s.1 s.2 r u = 0 := by
  unfold colZ
  rw [if_neg (by omega), sumN_zero fun k hk => by
    by_cases h : u = (rd s.2 (k : Int)).toNat
    · rw [if_pos h]; exact hR.left k hk r (by omega)
    · rw [if_neg h]]
  rfl
theorem colZ_self {p : Int} {D r : Nat} {s : List (List Int) × List Int} (h : ∀ k, k < s.2.length → (rd s.2 (k : Int)).toNat ≠ r) : colZ s.1 s.2 r r = 1 := by
  unfold colZ
  rw [if_pos rfl, sumN_zero fun k hk => by rw [if_neg (Ne.symm (h k hk))]]
  rfl
theorem sumN_cut {n r : Nat} (hr : r ≤ n) {f : Nat → Int} (h : ∀ u, r ≤ u → u < n → f u = 0) : sumN n f = sumN r f := by
  induction n with
  | zero => obtain rfl : r = 0 := by omega
            rfl
  | succ n ih =>
    by_cases hn : r = n + 1
    · rw [hn]
    · show sumN n f + f n = _
      rw [ih (by omega) (fun u h1 h2 => h u h1 (by omega)), h n (by omega) (by omega)]
      omega

end Go.Proofs.Ytjpbemomocccaaa.P

namespace Go.Proofs.Ytjpbemomocccaaa.P
open Go.RowKit Go.Proofs.YtjpbemomocccaaaW.PrintWords Go.Proofs.YtjpbemomocccaaaW.PrintLast Go.Proofs.YtjpbemomocccaaaW.PrintMore
attribute [local go_sem] max2_int min2_int max_two min_two max_three min_three max_four min_four
set_option linter.unusedVariables false
set_option linter.unusedSimpArgs false

theorem turnB_grp {C : Nat} {rows : List (List Int)} {j : Nat} (hj : j < C) : grp (turnB C rows) j = colB rows j := by
  unfold turnB grp
  exact getD_map _ _ _ _ hj
theorem colB_elm {rows : List (List Int)} {j r : Nat} (hr : r < rows.length) : elm (colB rows j) r = elm (grp rows r) j := by
  unfold elm colB
  exact getD_map _ _ _ _ hr
/-- The turned rows with the target beside them. -/
def wideC (C : Nat) (rows : List (List Int)) (l : List Int) : List (List Int) := besideOne (turnB C rows) l
theorem wideC_length (C : Nat) (rows : List (List Int)) (l : List Int) : (wideC C rows l).length = C := by unfold wideC; rw [besideOne_length, turnB_length]
theorem wideC_elm {C : Nat} {rows : List (List Int)} {l : List Int} {j r : Nat} (hj : j < C) (hr : r < rows.length) : elm (grp (wideC C rows l) j) r = elm (grp rows r) j := by
  unfold wideC
  rw [besideOne_grp (by rw [turnB_length]; exact hj), turnB_grp hj]
  unfold elm
  rw [getD_append, if_pos (by simp [colB]; exact hr)]
  exact colB_elm hr
theorem wideC_last {C : Nat} {rows : List (List Int)} {l : List Int} {j : Nat} (hj : j < C) : elm (grp (wideC C rows l) j) rows.length = elm l j := by
  unfold wideC
  rw [besideOne_grp (by rw [turnB_length]; exact hj), turnB_grp hj]
  unfold elm
  rw [getD_append, if_neg (by simp [colB])]
  simp [colB]
theorem wideC_ker {p : Int} {C : Nat} {rows : List (List Int)} {l : List Int} {z : Nat → Int} : KerP p (rows.length + 1) (wideC C rows l) z ↔ ∀ j, j < C → Eqm p (sumN rows.length (fun r => z r * elm (grp rows r) j) + z rows.length * elm l j) 0 := by
  have key : ∀ j, j < C → dotZ (rows.length + 1) (grp (wideC C rows l) j) z = sumN rows.length (fun r => z r * elm (grp rows r) j) + z rows.length * elm l j := fun j hj => by
    show sumN rows.length (fun r => elm (grp (wideC C rows l) j) r * z r) + elm (grp (wideC C rows l) j) rows.length * z rows.length = _
    rw [wideC_last hj, Int.mul_comm (elm l j), sumN_congr fun r hr => by rw [wideC_elm hj hr, Int.mul_comm]]
  unfold KerP
  rw [wideC_length]
  constructor
  · intro h j hj; rw [← key j hj]; exact h j hj
  · intro h j hj; rw [key j hj]; exact h j hj
theorem turn_mat {p : Int} {C : Nat} {rows : List (List Int)} (hp : 2 ≤ p) (hM : MatP p C rows) : MatP p rows.length (turnB C rows) := by
  intro j hj
  rw [turnB_length] at hj
  rw [turnB_grp hj]
  refine ⟨by simp [colB], fun r => ?_⟩
  by_cases hr : r < rows.length
  · have := colB_elm (j := j) hr
    unfold elm at this
    rw [this]
    exact (hM r hr).2 j
  · rw [List.getD_eq_getElem?_getD, List.getElem?_eq_none (by simp [colB]; omega)]
    show 0 ≤ (0 : Int) ∧ (0 : Int) ≤ p - 1
    omega
theorem wideC_mat {p : Int} {C : Nat} {rows : List (List Int)} {l : List Int} (hp : 2 ≤ p) (hM : MatP p C rows) (hl : RowP p C l) : MatP p (rows.length + 1) (wideC C rows l) := besideOne_mat hp (turn_mat hp hM) (by rw [turnB_length]; exact hl)
theorem free_piv {p : Int} {C r : Nat} {rows : List (List Int)} {l : List Int} (hpr : primeB p = true) (hM : MatP p C rows) (hl : RowP p C l) (hC : C ≤ 1000) (hr : r < rows.length) (hf : FreeP p C rows r) : ∃ k, k < (fullB p (rows.length + 1) (wideC C rows l)).2.length ∧ (rd (fullB p (rows.length + 1) (wideC C rows l)).2 (k : Int)).toNat = r := by
  have hp := primeB_range hpr
  have hW := wideC_mat hp.1 hM hl
  have hWl := wideC_length C rows l
  have hR := full_rref hpr hW (by omega)
  have hE := (full_ech hp.1 hW (by omega)).1
  have hker := full_ker (z := colZ (fullB p (rows.length + 1) (wideC C rows l)).1 (fullB p (rows.length + 1) (wideC C rows l)).2 r) hpr hW (by omega)
  have hk := wideC_ker.mp (hker.mpr (colZ_ker hR hE.le (by omega)))
  apply Classical.byContradiction
  intro hno
  refine hf ⟨fun u => -colZ (fullB p (rows.length + 1) (wideC C rows l)).1 (fullB p (rows.length + 1) (wideC C rows l)).2 r u, fun j hj => ?_⟩
  have h1 := hk j hj
  rw [colZ_high hR hr, Int.zero_mul, Int.add_zero] at h1
  have e9 : sumN rows.length (fun u => colZ (fullB p (rows.length + 1) (wideC C rows l)).1 (fullB p (rows.length + 1) (wideC C rows l)).2 r u * elm (grp rows u) j) = sumN (r + 1) (fun u => colZ (fullB p (rows.length + 1) (wideC C rows l)).1 (fullB p (rows.length + 1) (wideC C rows l)).2 r u * elm (grp rows u) j) := sumN_cut (n := rows.length) (r := r + 1) (by omega) (fun u h2 _ => by show colZ (fullB p (rows.length + 1) (wideC C rows l)).1 (fullB p (rows.length + 1) (wideC C rows l)).2 r u * _ = 0; rw [colZ_high (r := r) (u := u) hR (by omega), Int.zero_mul])
  rw [e9] at h1
  replace h1 : Eqm p (sumN r (fun u => colZ (fullB p (rows.length + 1) (wideC C rows l)).1 (fullB p (rows.length + 1) (wideC C rows l)).2 r u * elm (grp rows u) j) + colZ (fullB p (rows.length + 1) (wideC C rows l)).1 (fullB p (rows.length + 1) (wideC C rows l)).2 r r * elm (grp rows r) j) 0 := h1
  rw [colZ_self (p := p) (D := 0) (fun k hk2 e => hno ⟨k, hk2, e⟩), Int.one_mul] at h1
  have e : sumN r (fun u => -colZ (fullB p (rows.length + 1) (wideC C rows l)).1 (fullB p (rows.length + 1) (wideC C rows l)).2 r u * elm (grp rows u) j) = (-1) * sumN r (fun u => colZ (fullB p (rows.length + 1) (wideC C rows l)).1 (fullB p (rows.length + 1) (wideC C rows l)).2 r u * elm (grp rows u) j) := by
    rw [← sumN_mul]
    exact sumN_congr fun u _ => by grind
  show Eqm p _ (sumN r _)
  rw [e]
  have h2 := Eqm.sub h1 (Eqm.rfl_ p (sumN r (fun u => colZ (fullB p (rows.length + 1) (wideC C rows l)).1 (fullB p (rows.length + 1) (wideC C rows l)).2 r u * elm (grp rows u) j)))
  exact Eqm.trans (Eqm.of_eq (by omega)) (Eqm.trans h2 (Eqm.of_eq (by omega)))

end Go.Proofs.Ytjpbemomocccaaa.P

namespace Go.Proofs.Ytjpbemomocccaaa.P
open Go.RowKit Go.Proofs.YtjpbemomocccaaaW.PrintWords Go.Proofs.YtjpbemomocccaaaW.PrintLast Go.Proofs.YtjpbemomocccaaaW.PrintMore
attribute [local go_sem] max2_int min2_int max_two min_two max_three min_three max_four min_four
set_option linter.unusedVariables false
set_option linter.unusedSimpArgs false

theorem spec_l03Combine_ev {p : Int} {C : Nat} {rows : List (List Int)} {l : List Int} (hp : 2 ≤ p ∧ p ≤ 31) (hC : C ≤ 12) (hM : MatP p C rows) (hl : rows.length ≤ 20) (he : RowP p C l) : Ev (fun k => spec_l03Combine.f k p (C : Int) rows l) (solveB p rows.length (turnB C rows) l) := by
  unfold spec_l03Combine.f
  have ht := spec_l03Turned_ev p (C : Int) rows (by omega) hl (fun i hi => by rw [(hM i hi).1])
  rw [Int.toNat_natCast] at ht
  refine Ev.bind ht (Ev.bind (spec_l03Solve_ev hp (by omega) (turn_mat hp.1 hM) (by rw [turnB_length]; omega) (by rw [turnB_length]; exact he)) ?_)
  exact Ev.now _
theorem ask_ready {p cols : Int} {rows : List (List Int)} {l : List Int} (h : askB p cols rows l cols = 0) : (2 ≤ p ∧ p ≤ 31) ∧ (cols.toNat : Int) = cols ∧ cols.toNat ≤ 12 ∧ MatP p cols.toNat rows ∧ rows.length ≤ 20 ∧ RowP p cols.toNat l := by
  obtain ⟨hv, h1, h2⟩ := ask_parts h
  obtain ⟨g1, g2, g3, g4, g5⟩ := MatP_of_valid hv
  have := RowP_list g1.1 h2
  rw [show l.length = cols.toNat by omega] at this
  exact ⟨g1, g2, g3, g5, g4, this⟩
def CombRes (p cols : Int) (rows : List (List Int)) (l : List Int) : List Int × Int := if askB p cols rows l cols = 0 then (if (solveB p rows.length (turnB cols.toNat rows) l).2 = true then ((solveB p rows.length (turnB cols.toNat rows) l).1, 0) else ([], 6)) else ([], askB p cols rows l cols)
theorem spec_Combination_ev (p cols : Int) (rows : List (List Int)) (l : List Int) (hl : rows.length ≤ 4611686018427387904) (hr : ∀ r ∈ rows, r.length ≤ 4611686018427387904) (hll : l.length ≤ 4611686018427387904) : Ev (fun k => spec_Combination.f k p cols rows l) (CombRes p cols rows l) := by
  unfold spec_Combination.f CombRes
  refine Ev.bind (spec_l03Asked_ev p cols rows l false hl hr hll) ?_
  simp only [Bool.false_eq_true, if_false]
  by_cases h : askB p cols rows l cols = 0
  · simp only [if_pos h]
    obtain ⟨g1, g2, g3, g4, g5, g6⟩ := ask_ready h
    have := spec_l03Combine_ev g1 g3 g4 g5 g6
    rw [g2] at this
    refine Ev.bind this ?_
    split <;> exact Ev.now _
  · simp only [if_neg h]; exact Ev.now _
theorem CombRes_len (p cols : Int) (rows : List (List Int)) (l : List Int) : (CombRes p cols rows l).1.length ≤ 1000 := by
  unfold CombRes
  split
  · rename_i h
    obtain ⟨g1, g2, g3, g4, g5, g6⟩ := ask_ready h
    have := solveB_len p rows.length (turnB cols.toNat rows) l
    split
    · show (solveB p rows.length (turnB cols.toNat rows) l).1.length ≤ 1000; omega
    · simp
  · simp

end Go.Proofs.Ytjpbemomocccaaa.P

namespace Go.Proofs.Ytjpbemomocccaaa.P
open Go.RowKit Go.Proofs.YtjpbemomocccaaaW.PrintWords Go.Proofs.YtjpbemomocccaaaW.PrintLast Go.Proofs.YtjpbemomocccaaaW.PrintMore
attribute [local go_sem] max2_int min2_int max_two min_two max_three min_three max_four min_four
set_option linter.unusedVariables false
set_option linter.unusedSimpArgs false

/-! ### impl_IsSpanned: function 27 -/
end Go.Proofs.Ytjpbemomocccaaa.P

namespace Go.Proofs.Ytjpbemomocccaaa.P
open Go.RowKit Go.Proofs.YtjpbemomocccaaaW.PrintWords Go.Proofs.YtjpbemomocccaaaW.PrintLast Go.Proofs.YtjpbemomocccaaaW.PrintMore
attribute [local go_sem] max2_int min2_int max_two min_two max_three min_three max_four min_four
set_option linter.unusedVariables false
set_option linter.unusedSimpArgs false

theorem solGo_false {n : Nat} {E : List (List Int)} {piv : List Int} : ∀ (d i : Nat) (out : List Int), i + d = piv.length → (∃ k : Nat, i ≤ k ∧ k < piv.length ∧ rd piv (k : Int) = (n : Int)) → solGo n E piv d i out = ([], false) := by
  intro d
  induction d with
  | zero => intro i out hi h; obtain ⟨k, h1, h2, _⟩ := h; omega
  | succ d ih =>
    intro i out hi h
    unfold solGo
    by_cases h0 : rd piv (i : Int) = (n : Int)
    · rw [if_pos h0]
    · rw [if_neg h0]
      obtain ⟨k, h1, h2, h3⟩ := h
      have : k ≠ i := fun e => h0 (by rw [← e]; exact h3)
      exact ih _ _ (by omega) ⟨k, by omega, h2, h3⟩
theorem solGo_true {n : Nat} {E : List (List Int)} {piv : List Int} (hr : ∀ k : Nat, k < piv.length → 0 ≤ rd piv (k : Int) ∧ rd piv (k : Int) < (n : Int)) (hi : ∀ k l : Nat, k < l → l < piv.length → rd piv (k : Int) < rd piv (l : Int)) : ∀ (d i : Nat) (out : List Int), i + d = piv.length → out.length = n →
    ∃ res, solGo n E piv d i out = (res, true) ∧ res.length = n ∧ (∀ k : Nat, i ≤ k → k < piv.length → elm res (rd piv (k : Int)).toNat = rd (grp E k) (n : Int)) ∧ ∀ r, (∀ k : Nat, i ≤ k → k < piv.length → (rd piv (k : Int)).toNat ≠ r) → elm res r = elm out r := by
  intro d
  induction d with
  | zero => intro i out hd ho; exact ⟨out, rfl, ho, fun k h1 h2 => by omega, fun r _ => rfl⟩
  | succ d ih =>
    intro i out hd ho
    have hpi := hr i (by omega)
    unfold solGo
    rw [if_neg (by omega)]
    obtain ⟨res, e, hl, h1, h2⟩ := ih (i + 1) (out.set (rd piv (i : Int)).toNat (rd (grp E i) (n : Int))) (by omega) (by rw [List.length_set]; exact ho)
    refine ⟨res, e, hl, fun k hk1 hk2 => ?_, fun r hrk => ?_⟩
    · by_cases hki : k = i
      · subst hki
        rw [h2 _ fun k' hk' hk2' => by have := hi k k' (by omega) hk2'; have := hr k' hk2'; omega]
        unfold elm
        rw [getD_set _ _ _ _ _ (by omega), if_pos rfl]
      · exact h1 k (by omega) hk2
    · rw [h2 r fun k hk1 hk2 => hrk k (by omega) hk2]
      unfold elm
      rw [getD_set _ _ _ _ _ (by omega), if_neg (Ne.symm (hrk i (Nat.le_refl _) (by omega)))]
/-- A solution that lies on free rows alone is the reference's. -/
theorem comb_same {p : Int} {C : Nat} {rows : List (List Int)} {l x : List Int} (hpr : primeB p = true) (hM : MatP p C rows) (hl : RowP p C l) (hC : C ≤ 900) (hx : RowP p rows.length x) (hs : ∀ r, r < rows.length → ¬ FreeP p C rows r → elm x r = 0) (hm : ∀ j, j < C → Eqm p (sumN rows.length (fun r => elm x r * elm (grp rows r) j)) (elm l j)) :
    solveB p rows.length (turnB C rows) l = (x, true) := by
  have hp := primeB_range hpr
  have hW := wideC_mat hp.1 hM hl
  have hWl := wideC_length C rows l
  have hR := full_rref hpr hW (by omega)
  have hE := (full_ech hp.1 hW (by omega)).1
  have hFl := (full_ech hp.1 hW (by omega)).2
  have hker := full_ker (z := fun u => if u = rows.length then -1 else elm x u) hpr hW (by omega)
  have hk : KerP p (rows.length + 1) (fullB p (rows.length + 1) (wideC C rows l)).1 (fun u => if u = rows.length then -1 else elm x u) := hker.mp (wideC_ker.mpr fun j hj => by
    have e : sumN rows.length (fun r => (if r = rows.length then -1 else elm x r) * elm (grp rows r) j) = sumN rows.length (fun r => elm x r * elm (grp rows r) j) := sumN_congr fun r hr => by rw [if_neg (by omega)]
    show Eqm p (sumN rows.length (fun r => (if r = rows.length then -1 else elm x r) * elm (grp rows r) j) + (if rows.length = rows.length then -1 else elm x rows.length) * elm l j) 0
    rw [e, if_pos rfl]
    exact Eqm.trans (Eqm.add (hm j hj) (Eqm.rfl_ _ _)) (Eqm.of_eq (by omega)))
  have hfp : ∀ r, r < rows.length → elm x r ≠ 0 → ∃ k, k < (fullB p (rows.length + 1) (wideC C rows l)).2.length ∧ (rd (fullB p (rows.length + 1) (wideC C rows l)).2 (k : Int)).toNat = r := fun r hr hne => free_piv hpr hM hl (by omega) hr (Classical.byContradiction fun hf => hne (hs r hr hf))
  generalize hF : fullB p (rows.length + 1) (wideC C rows l) = F at *
  have hrow : ∀ k, k < F.2.length → Eqm p (sumN rows.length (fun u => elm (grp F.1 k) u * elm x u)) (elm (grp F.1 k) rows.length) := fun k hkl => by
    have h1 := hk k (by have := hE.le; omega)
    have e : sumN rows.length (fun u => elm (grp F.1 k) u * (if u = rows.length then -1 else elm x u)) = sumN rows.length (fun u => elm (grp F.1 k) u * elm x u) := sumN_congr fun u hu => by rw [if_neg (by omega)]
    replace h1 : Eqm p (sumN rows.length (fun u => elm (grp F.1 k) u * (if u = rows.length then -1 else elm x u)) + elm (grp F.1 k) rows.length * (if rows.length = rows.length then -1 else elm x rows.length)) 0 := h1
    rw [e, if_pos rfl] at h1
    have h2 := Eqm.add h1 (Eqm.rfl_ p (elm (grp F.1 k) rows.length))
    exact Eqm.trans (Eqm.of_eq (by omega)) (Eqm.trans h2 (Eqm.of_eq (by omega)))
  have hnp : ∀ k, k < F.2.length → rd F.2 (k : Int) < (rows.length : Int) := fun k hkl => by
    have h1 := hR.lt k hkl
    apply Classical.byContradiction
    intro hge
    have hkn : (rd F.2 (k : Int)).toNat = rows.length := by omega
    have hd := hR.delta k hkl k (by have := hE.le; omega)
    rw [hkn, if_pos rfl] at hd
    have h2 := hrow k hkl
    rw [hd, sumN_zero fun u hu => by rw [hR.left k hkl u (by omega), Int.zero_mul]] at h2
    have := Eqm.eq_of h2 (by omega) (by omega)
    omega
  unfold solveB
  show solGo rows.length (echB p (rows.length + 1) (wideC C rows l)).1 (echB p (rows.length + 1) (wideC C rows l)).2 (echB p (rows.length + 1) (wideC C rows l)).2.length 0 _ = _
  unfold echB
  rw [hF]
  obtain ⟨res, e, hresl, r1, r2⟩ := solGo_true (n := rows.length) (E := F.1.take F.2.length) (piv := F.2) (fun k hkl => ⟨(hR.lt k hkl).1, hnp k hkl⟩) (fun k m hkm hml => hR.incr k m hkm hml) F.2.length 0 (List.replicate rows.length 0) (Nat.zero_add _) (by simp)
  show solGo rows.length (F.1.take F.2.length) F.2 F.2.length 0 (List.replicate rows.length 0) = (x, true)
  rw [e]
  refine Prod.ext ?_ rfl
  refine list_eq_getD 0 (by rw [hresl, hx.1]) fun r hr => ?_
  rw [hresl] at hr
  show elm res r = elm x r
  by_cases hpv : ∃ k, k < F.2.length ∧ (rd F.2 (k : Int)).toNat = r
  · obtain ⟨k, hkl, rfl⟩ := hpv
    rw [r1 k (Nat.zero_le _) hkl, rd_cast]
    have eg : grp (F.1.take F.2.length) k = grp F.1 k := by
      unfold grp
      rw [getD_take, if_pos hkl]
    rw [eg]
    have h2 := hrow k hkl
    have hkk := hR.delta k hkl k (by have := hE.le; omega)
    have hz : sumN rows.length (fun u => if u = (rd F.2 (k : Int)).toNat then 0 else elm (grp F.1 k) u * elm x u) = 0 := sumN_zero fun u hu => by
      by_cases hu2 : u = (rd F.2 (k : Int)).toNat
      · rw [if_pos hu2]
      · rw [if_neg hu2]
        by_cases hu3 : elm x u = 0
        · rw [hu3, Int.mul_zero]
        · obtain ⟨k', hk', e'⟩ := hfp u hu hu3
          have hd := hR.delta k' hk' k (by have := hE.le; omega)
          rw [e', if_neg (fun e2 => hu2 (by rw [e2]; exact e'.symm))] at hd
          rw [hd, Int.zero_mul]
    rw [sumN_apart hr, hz, hkk, if_pos rfl] at h2
    have hEk := elm_range hp.1 hE.mat k rows.length (by have := hE.le; omega)
    have := Eqm.eq_of (Eqm.trans (Eqm.of_eq (by omega : elm x (rd F.2 (k : Int)).toNat = 0 + 1 * elm x (rd F.2 (k : Int)).toNat)) h2) (hx.2 _) hEk
    exact this.symm
  · rw [r2 r fun k _ hkl e2 => hpv ⟨k, hkl, e2⟩]
    have h0 : elm x r = 0 := Classical.byContradiction fun hne => hpv (hfp r hr hne)
    rw [h0]
    unfold elm
    rw [List.getD_eq_getElem?_getD, List.getElem?_replicate]
    split <;> rfl

end Go.Proofs.Ytjpbemomocccaaa.P

namespace Go.Proofs.Ytjpbemomocccaaa.P
open Go.RowKit Go.Proofs.YtjpbemomocccaaaW.PrintWords Go.Proofs.YtjpbemomocccaaaW.PrintLast Go.Proofs.YtjpbemomocccaaaW.PrintMore
attribute [local go_sem] max2_int min2_int max_two min_two max_three min_three max_four min_four
set_option linter.unusedVariables false
set_option linter.unusedSimpArgs false

/-- What the reference finds is a solution; where it finds none, it says so with an empty list. -/
theorem solve_gives {p : Int} {C : Nat} {rows : List (List Int)} {l : List Int} (hpr : primeB p = true) (hM : MatP p C rows) (hl : RowP p C l) (hC : C ≤ 900) :
    solveB p rows.length (turnB C rows) l = ([], false) ∨ ∃ res : List Int, ∀ j, j < C → Eqm p (sumN rows.length (fun r => elm res r * elm (grp rows r) j)) (elm l j) := by
  have hp := primeB_range hpr
  have hW := wideC_mat hp.1 hM hl
  have hWl := wideC_length C rows l
  have hR := full_rref hpr hW (by omega)
  have hE := (full_ech hp.1 hW (by omega)).1
  have hker := fun z => full_ker (z := z) hpr hW (by omega)
  unfold solveB
  show solGo rows.length (echB p (rows.length + 1) (wideC C rows l)).1 (echB p (rows.length + 1) (wideC C rows l)).2 (echB p (rows.length + 1) (wideC C rows l)).2.length 0 _ = _ ∨ _
  unfold echB
  generalize hF : fullB p (rows.length + 1) (wideC C rows l) = F at *
  by_cases hpv : ∃ k : Nat, 0 ≤ k ∧ k < F.2.length ∧ rd F.2 (k : Int) = (rows.length : Int)
  · exact Or.inl (solGo_false _ 0 _ (Nat.zero_add _) hpv)
  · refine Or.inr ?_
    have hnp : ∀ k, k < F.2.length → 0 ≤ rd F.2 (k : Int) ∧ rd F.2 (k : Int) < (rows.length : Int) := fun k hkl => by
      have h1 := hR.lt k hkl
      have : rd F.2 (k : Int) ≠ (rows.length : Int) := fun e => hpv ⟨k, Nat.zero_le _, hkl, e⟩
      omega
    obtain ⟨res, e, hresl, r1, r2⟩ := solGo_true (n := rows.length) (E := F.1) (piv := F.2) hnp (fun k m hkm hml => hR.incr k m hkm hml) F.2.length 0 (List.replicate rows.length 0) (Nat.zero_add _) (by simp)
    have hzero : ∀ u, elm (List.replicate rows.length 0) u = 0 := fun u => by unfold elm; rw [List.getD_eq_getElem?_getD, List.getElem?_replicate]; split <;> rfl
    have hres0 : ∀ u, (∀ k, k < F.2.length → (rd F.2 (k : Int)).toNat ≠ u) → elm res u = 0 := fun u hu => (r2 u fun k _ hk => hu k hk).trans (hzero u)
    have hk : KerP p (rows.length + 1) F.1 (fun u => if u = rows.length then -1 else elm res u) := fun i hi => by
      refine Eqm.of_eq ?_
      have e1 : sumN rows.length (fun u => elm (grp F.1 i) u * (if u = rows.length then -1 else elm res u)) = sumN rows.length (fun u => elm (grp F.1 i) u * elm res u) := sumN_congr fun u hu => by rw [if_neg (by omega)]
      show sumN rows.length (fun u => elm (grp F.1 i) u * (if u = rows.length then -1 else elm res u)) + elm (grp F.1 i) rows.length * (if rows.length = rows.length then -1 else elm res rows.length) = 0
      rw [e1, if_pos rfl]
      by_cases hil : i < F.2.length
      · have hPi := hnp i hil
        have hz : sumN rows.length (fun u => if u = (rd F.2 (i : Int)).toNat then 0 else elm (grp F.1 i) u * elm res u) = 0 := sumN_zero fun u hu => by
          by_cases hu2 : u = (rd F.2 (i : Int)).toNat
          · rw [if_pos hu2]
          · rw [if_neg hu2]
            by_cases hu3 : ∃ k, k < F.2.length ∧ (rd F.2 (k : Int)).toNat = u
            · obtain ⟨k', hk', e'⟩ := hu3
              have hd := hR.delta k' hk' i hi
              rw [e', if_neg (fun e2 => hu2 (by rw [e2]; exact e'.symm))] at hd
              rw [hd, Int.zero_mul]
            · rw [hres0 u fun k hk e2 => hu3 ⟨k, hk, e2⟩, Int.mul_zero]
        have hd := hR.delta i hil i hi
        rw [if_pos rfl] at hd
        rw [sumN_apart (a := (rd F.2 (i : Int)).toNat) (by omega), hz, hd, r1 i (Nat.zero_le _) hil, rd_cast]
        show 0 + 1 * elm (grp F.1 i) rows.length + elm (grp F.1 i) rows.length * -1 = 0
        omega
      · rw [sumN_zero fun u hu => by rw [hR.zero i (by omega) hi u (by omega), Int.zero_mul], hR.zero i (by omega) hi rows.length (by omega)]
        rfl
    refine ⟨res, fun j hj => ?_⟩
    have h1 := wideC_ker.mp ((hker _).mpr hk) j hj
    have e2 : sumN rows.length (fun r => (if r = rows.length then -1 else elm res r) * elm (grp rows r) j) = sumN rows.length (fun r => elm res r * elm (grp rows r) j) := sumN_congr fun r hr => by rw [if_neg (by omega)]
    replace h1 : Eqm p (sumN rows.length (fun r => (if r = rows.length then -1 else elm res r) * elm (grp rows r) j) + (if rows.length = rows.length then -1 else elm res rows.length) * elm l j) 0 := h1
    rw [e2, if_pos rfl] at h1
    have h2 := Eqm.add h1 (Eqm.rfl_ p (elm l j))
    exact Eqm.trans (Eqm.of_eq (by omega)) (Eqm.trans h2 (Eqm.of_eq (by omega)))
/-- What the program finds. -/
def leftB (p : Int) (rows : List (List Int)) (l : List Int) : List Int × List Int := lessB p (basisB p rows.length rows) (l, List.replicate rows.length 0)
def combB (p : Int) (rows : List (List Int)) (l : List Int) : List Int × Bool := if leadN (leftB p rows l).1 < (leftB p rows l).1.length then ([], false) else (timesB p (p - 1) (leftB p rows l).2, true)
theorem comb_solve {p : Int} {C : Nat} {rows : List (List Int)} {l : List Int} (hpr : primeB p = true) (hM : MatP p C rows) (hl : RowP p C l) (hC : C ≤ 900) : combB p rows l = solveB p rows.length (turnB C rows) l := by
  have hp := primeB_range hpr
  have hfull : FullP p C rows.length rows rows.length (basisB p rows.length rows) := full_all (C := C) hpr hM rfl rows.length (Nat.le_refl _)
  have hx0 : PartP p C rows.length (l, List.replicate rows.length 0) := ⟨hl, RowP_zero hp.1 _⟩
  have hz0 : ∀ u, elm (List.replicate rows.length 0) u = 0 := fun u => by unfold elm; rw [List.getD_eq_getElem?_getD, List.getElem?_replicate]; split <;> rfl
  have hm0 : MadeOf p C rows (elm l) (l, List.replicate rows.length 0) := fun j hj => by
    refine Eqm.of_eq ?_
    show elm l j = elm l j + sumN rows.length (fun r => elm (List.replicate rows.length 0) r * elm (grp rows r) j)
    rw [sumN_zero fun r _ => by rw [hz0, Int.zero_mul]]
    omega
  obtain ⟨f1, f2, f3, c, f4⟩ := less_facts hp.1 rfl hfull.basis hx0 hm0 (basisB p rows.length rows).length (Nat.le_refl _)
  have fs := fun r (hr : ¬ FreeP p C rows r) => less_sup (p := p) (r := r) (parts := basisB p rows.length rows) (x := (l, List.replicate rows.length 0)) (hz0 r) (fun s hs => hfull.sup s hs r hr) (basisB p rows.length rows).length (Nat.le_refl _)
  rw [List.take_length] at f1 f2 f3 f4 fs
  unfold combB leftB
  have hseen := hfull.seen
  have hB := hfull.basis
  change ∀ r, r < rows.length → SpanB p C (basisB p rows.length rows) (elm (grp rows r)) at hseen
  change BasisP p C rows.length rows (basisB p rows.length rows) at hB
  generalize lessB p (basisB p rows.length rows) (l, List.replicate rows.length 0) = x at *
  replace f4 : ∀ j, j < C → Eqm p (elm x.1 j) (elm l j + sumN (basisB p rows.length rows).length (fun s => c s * elm (ptB (basisB p rows.length rows) s).1 j)) := f4
  by_cases hlead : leadN x.1 < x.1.length
  · rw [if_pos hlead]
    rcases solve_gives hpr hM hl hC with h | ⟨res, hres⟩
    · exact h.symm
    · exfalso
      have hspl : SpanB p C (basisB p rows.length rows) (elm l) := span_eq (fun j hj => Eqm.symm (hres j hj)) (span_sum rows.length hseen)
      have hsx : SpanB p C (basisB p rows.length rows) (elm x.1) := span_eq (fun j hj => Eqm.trans (f4 j hj) (Eqm.of_eq (by rw [Int.one_mul]))) (span_add (a := 1) hspl ⟨c, fun j _ => Eqm.rfl_ _ _⟩)
      have h1 := span_zero hB hsx (fun s hs => Eqm.of_eq (f3 s hs)) (leadN x.1) (by have := f1.1.1; omega)
      exact leadN_ne hlead (Eqm.eq_of h1 (f1.1.2 _) (by omega))
  · rw [if_neg hlead]
    have hz := leadN_none hlead
    refine (comb_same hpr hM hl hC (timesB_row hp.1 f1.2) (fun r hr hf => elm_timesB_zero (fs r hf)) (fun j hj => ?_)).symm
    have h2 := f2 j hj
    rw [hz j] at h2
    refine Eqm.trans (Eqm.sumN_ fun r _ => Eqm.mul elm_times (Eqm.rfl_ _ _)) ?_
    have e : sumN rows.length (fun r => elm x.2 r * (p - 1) * elm (grp rows r) j) = (p - 1) * sumN rows.length (fun r => elm x.2 r * elm (grp rows r) j) := by
      rw [← sumN_mul]
      exact sumN_congr fun r _ => by grind
    rw [e]
    have h3 := Eqm.mul (Eqm.rfl_ p (p - 1)) h2
    obtain ⟨k, hk⟩ := h2
    exact ⟨sumN rows.length (fun r => elm x.2 r * elm (grp rows r) j) + k, by grind⟩

end Go.Proofs.Ytjpbemomocccaaa.P

namespace Go.Proofs.Ytjpbemomocccaaa.P
open Go.RowKit Go.Proofs.YtjpbemomocccaaaW.PrintWords Go.Proofs.YtjpbemomocccaaaW.PrintLast Go.Proofs.YtjpbemomocccaaaW.PrintMore
attribute [local go_sem] max2_int min2_int max_two min_two max_three min_three max_four min_four
set_option linter.unusedVariables false
set_option linter.unusedSimpArgs false

theorem basis_mem {p : Int} {C n : Nat} {rows : List (List Int)} {parts : List (List Int × List Int)} (hB : BasisP p C n rows parts) : ∀ b ∈ parts, PartP p C n b ∧ leadN b.1 < C := by
  intro b hb
  obtain ⟨s, hs, rfl⟩ := List.getElem_of_mem hb
  have e : ptB parts s = parts[s] := by unfold ptB; rw [List.getD_eq_getElem?_getD, List.getElem?_eq_getElem hs]; rfl
  exact ⟨e ▸ hB.part s hs, e ▸ hB.lead s hs⟩
theorem lead_ev (l : List Int) (hl : l.length ≤ 1000) : Ev (fun k => impl_first.f k l) (if leadN l < l.length then (leadN l : Int) else -1) := impl_first_ev l hl
theorem combRows_ev {p : Int} {C : Nat} {rows : List (List Int)} (hpr : primeB p = true) (hC : C ≤ 900) (hn : rows.length ≤ 900) (hM : MatP p C rows) : ∀ (d i : Nat) (parts : List (List Int × List Int)), i + d = rows.length → FullP p C rows.length rows i parts → Ev (fun k => combRows k p rows parts (i : Int)) ((List.range' i d).foldl (takeRow p rows.length rows) parts) := by
  have hp := primeB_range hpr
  intro d
  induction d with
  | zero =>
    intro i parts hi h
    refine Ev.step (f := fun _ => some parts) (fun k => ?_) (Ev.now _)
    simp only [combRows]
    rw [if_neg (by omega)]
  | succ d ih =>
    intro i parts hi h
    have hil : i < rows.length := by omega
    have hri := hM i hil
    have hrl := hri.1
    have hx0 : PartP p C rows.length (grp rows i, unitB rows.length i) := ⟨hri, RowP_set (RowP_zero hp.1 _) hil (by omega)⟩
    have hless := combLess_ev hp (by omega) (by omega) (by have := h.small; omega) (basis_mem h.basis) parts.length 0 _ (Nat.zero_add _) hx0
    rw [List.drop_zero] at hless
    obtain ⟨f1, -⟩ := less_facts hp.1 rfl h.basis hx0 (unit_made rfl hil) parts.length (Nat.le_refl _)
    rw [List.take_length] at f1
    have hnext := ih (i + 1) _ (by omega) (full_step hpr hM rfl hil h)
    rw [List.range'_succ, List.foldl_cons]
    have hsm := h.small
    refine Ev.step (f := fun k => (combLess k p parts (grp rows i) (unitB rows.length i) 0).bind fun x => ((impl_first.f k x.1).bind fun f => if 0 ≤ f then (if f < (x.1.length : Int) then ((impl_inverse.f k p (rd x.1 f)).bind fun by_ => ((impl_scaled.f k p x.1 by_).bind fun r2 => ((impl_scaled.f k p x.2 by_).bind fun f2 => if parts.length < 1048576 then combRows k p rows (parts ++ [(r2, f2)]) ((i + 1 : Nat) : Int) else none))) else none) else combRows k p rows parts ((i + 1 : Nat) : Int))) (fun k => ?_) (Ev.bind hless ?_)
    · simp only [combRows]
      rw [if_pos (by omega), if_pos (by omega), if_pos (by omega), rdL_cast, clone_eq _ (by omega), wr (by omega) (by omega), Int.toNat_natCast]
      rfl
    · unfold takeRow putB at hnext ⊢
      generalize lessB p parts (grp rows i, unitB rows.length i) = x at *
      have hx1 := f1.1.1
      refine Ev.bind (lead_ev x.1 (by omega)) ?_
      by_cases hl : leadN x.1 < x.1.length
      · rw [if_pos hl] at hnext ⊢
        rw [if_pos hl]
        simp only [if_pos (show (0 : Int) ≤ ((leadN x.1 : Nat) : Int) by omega), if_pos (show ((leadN x.1 : Nat) : Int) < (x.1.length : Int) by omega), rd_cast, if_pos (show parts.length < 1048576 by omega)]
        have hinv := invB_range (a := elm x.1 (leadN x.1)) hp.1
        exact Ev.bind (impl_inverse_ev p _ hp (f1.1.2 _)) (Ev.bind (impl_scaled_ev hp (by omega) f1.1 (by unfold elm at hinv; omega)) (Ev.bind (impl_scaled_ev hp (by omega) f1.2 (by unfold elm at hinv; omega)) hnext))
      · rw [if_neg hl] at hnext ⊢
        rw [if_neg hl]
        simp only [if_neg (show ¬ (0 : Int) ≤ -1 by omega)]
        exact hnext
theorem combMain_ev {p : Int} {C : Nat} {rows : List (List Int)} {l : List Int} (hpr : primeB p = true) (hC : C ≤ 900) (hn : rows.length ≤ 900) (hM : MatP p C rows) (hl : RowP p C l) : Ev (fun k => combMain k p rows l) (combB p rows l) := by
  have hp := primeB_range hpr
  have hll := hl.1
  have hrows := combRows_ev hpr hC hn hM rows.length 0 [] (Nat.zero_add _) (full_start p C rows.length rows)
  rw [← List.range_eq_range'] at hrows
  have hfull : FullP p C rows.length rows rows.length (basisB p rows.length rows) := full_all (C := C) hpr hM rfl rows.length (Nat.le_refl _)
  have hx0 : PartP p C rows.length (l, List.replicate rows.length 0) := ⟨hl, RowP_zero hp.1 _⟩
  have hless := combLess_ev hp (by omega) (by omega) (by have := hfull.small; omega) (basis_mem hfull.basis) (basisB p rows.length rows).length 0 _ (Nat.zero_add _) hx0
  rw [List.drop_zero] at hless
  have f1 : PartP p C rows.length (lessB p (basisB p rows.length rows) (l, List.replicate rows.length 0)) := by
    have key : ∀ (ps : List (List Int × List Int)) (x : List Int × List Int), PartP p C rows.length x → PartP p C rows.length (lessB p ps x) := by
      intro ps
      induction ps with
      | nil => intro x h; exact h
      | cons b ps ih => intro x h; exact ih _ (lessStep_P hp.1 h)
    exact key _ _ hx0
  unfold combMain
  refine Ev.bind hrows ?_
  rw [clone_eq _ (by omega)]
  unfold combB leftB
  refine Ev.bind (Ev.now l) ?_
  have hless2 : Ev (fun k => combLess k p (basisB p rows.length rows) l (List.replicate rows.length 0) 0) (lessB p (basisB p rows.length rows) (l, List.replicate rows.length 0)) := hless
  refine Ev.bind hless2 ?_
  generalize lessB p (basisB p rows.length rows) (l, List.replicate rows.length 0) = x at *
  have hx1 := f1.1.1
  refine Ev.bind (lead_ev x.1 (by omega)) ?_
  by_cases hld : leadN x.1 < x.1.length
  · rw [if_pos hld, if_pos hld]
    simp only [if_pos (show (0 : Int) ≤ ((leadN x.1 : Nat) : Int) by omega)]
    exact Ev.now _
  · rw [if_neg hld, if_neg hld]
    simp only [if_neg (show ¬ (0 : Int) ≤ -1 by omega), wr (x := p - 1) (by omega) (by omega)]
    exact Ev.bind (impl_scaled_ev hp (by omega) f1.2 (by omega)) (Ev.now _)

end Go.Proofs.Ytjpbemomocccaaa.P

namespace Go.Proofs.Ytjpbemomocccaaa.P
open Go.RowKit Go.Proofs.YtjpbemomocccaaaW.PrintWords Go.Proofs.YtjpbemomocccaaaW.PrintLast Go.Proofs.YtjpbemomocccaaaW.PrintMore
attribute [local go_sem] max2_int min2_int max_two min_two max_three min_three max_four min_four
set_option linter.unusedVariables false
set_option linter.unusedSimpArgs false

theorem comb_ev {p cols : Int} {rows : List (List Int)} {l : List Int} (h : askB p cols rows l cols = 0) : Ev (fun k => impl_Matrix_combination.f k p cols rows l) (solveB p rows.length (turnB cols.toNat rows) l) := by
  obtain ⟨g1, g2, g3, g4, g5, g6⟩ := ask_ready h
  have hpr := prime_of_valid (ask_parts h).1
  have := combMain_ev hpr (by omega) (by omega) g4 g6
  rw [comb_solve hpr g4 g6 (by omega)] at this
  exact this
theorem impl_Combination_ev (p cols : Int) (rows : List (List Int)) (l : List Int) (hl : rows.length ≤ 4611686018427387904) (hr : ∀ r ∈ rows, r.length ≤ 4611686018427387904) (hll : l.length ≤ 4611686018427387904) : Ev (fun k => impl_Combination.f k p cols rows l) (CombRes p cols rows l) := by
  unfold impl_Combination.f CombRes
  refine Ev.bind (impl_targetCode_ev p cols rows l _ hl hr hll) ?_
  by_cases h : askB p cols rows l cols = 0
  · simp only [if_pos h]
    refine Ev.bind (comb_ev h) ?_
    split <;> exact Ev.now _
  · simp only [if_neg h]; exact Ev.now _
end Go.Proofs.Ytjpbemomocccaaa.P

/- For all arguments the program's Combination and the reference's answer alike, the arguments stay, and the result is memory of its own. -/
namespace Go.Proofs.Ytjpbemomocccaaa.Pure
open Go.RowKit Go.Proofs.Ytjpbemomocccaaa.P Go.Proofs.YtjpbemomocccaaaW.PrintWords Go.Proofs.YtjpbemomocccaaaW.PrintLast Go.Proofs.YtjpbemomocccaaaW.PrintMore
set_option linter.unusedVariables false
set_option linter.unusedSimpArgs false

theorem FnExactCombination : laws_FnExactCombination.Pure := by
  intro x l hx _
  obtain ⟨xp, xc, xs⟩ := x
  have hl : xs.length ≤ 9223372036854775807 := hx.2.2.1
  have hr : ∀ r ∈ xs, r.length ≤ 9223372036854775807 := fun r h => (hx.2.2.2 r h).1
  by_cases hb : 1048576 < (l.length : Int)
  · exact Or.inl ⟨0, decide_eq_true hb, decide_eq_true (by omega)⟩
  · have hll : l.length ≤ 1048576 := by omega
    have s1 := szMatrix_ev xp xc xs 1048576 (by omega) hl hr
    by_cases h : (bulk xs : Int) ≤ 1048576
    · rw [if_pos h] at s1
      obtain ⟨h1, h2⟩ := bulk_len (rows := xs) (n := 1048576) (by omega)
      have h5 : allLen xs ≤ 1048576 := by unfold bulk at h; unfold allLen; omega
      have z1 := CombRes_len xp xc xs l
      have h3 : ∀ r ∈ xs, r.length ≤ 4611686018427387904 := fun r hr => Nat.le_trans (h2 r hr) (by omega)
      have e1 := spec_Combination_ev xp xc xs l (by omega) h3 (by omega)
      have e2 := impl_Combination_ev xp xc xs l (by omega) h3 (by omega)
      obtain ⟨⟨r1, r2⟩, er⟩ : ∃ r, r = CombRes xp xc xs l := ⟨_, rfl⟩
      rw [← er] at e1 e2 z1
      simp only at z1
      obtain ⟨k, a1, a2, a3, a4, a5, a6, a7, a8, a9, b1, b2, b3⟩ := From.now (From.and s1 (From.and (toMatrix_ev xp xc xs h1 h2) (From.and (toInt64S_ev l hll) (From.and e1 (From.and e2 (From.and (eqInt64S_same r1 (by omega)) (From.and (eqMatrix_same xp xc xs h1 h2) (From.and (eqInt64S_same l hll) (From.and (markMatrix_ev xp xc xs 1 (by omega) (by omega) (by omega)) (From.and (markInt64S_ev l (1 + (allLen xs : Int)) (by omega) (by omega)) (From.and (markInt64S_ev r1 1 (by omega) (by omega)) (heldInt64S_ev 1 r1.length (by omega) (by omega)))))))))))))
      exact Or.inr (Or.inr ⟨k, _, r1, r2, _, _, _, _, _, _, decide_eq_false hb, decide_eq_false (by omega), a1, decide_eq_false (by omega), a2, a3, a4, a2, a3, a5, a6, a2, a7, a3, a8, a9, b1, decide_eq_false (by omega), a6, b2, b3, decide_eq_false (by omega), a2, a3, a5, a6, b3, decide_eq_false (by omega)⟩)
    · rw [if_neg h] at s1
      obtain ⟨k, a1⟩ := From.now s1
      exact Or.inr (Or.inl ⟨k, _, decide_eq_false hb, decide_eq_false (by omega), a1, by decide⟩)

end Go.Proofs.Ytjpbemomocccaaa.Pure

/- The row of the law FnExactCombination: whatever its arguments, it answers true, and they read as before. No condition. -/
namespace Go.Proofs.Ytjpbemomocccaaa.fnExactCombination
open Go.ChangeShapes Go.WideShapes Go.ChangeAt Go.RowKit Go.Proofs.Ytjpbemomocccaaa.P Go.Proofs.YtjpbemomocccaaaW.PrintWords Go.Proofs.YtjpbemomocccaaaW.PrintLast Go.Proofs.YtjpbemomocccaaaW.PrintMore
open Go.ChangeMaps (open_string shut_string)
set_option linter.unusedVariables false
theorem own : ownKnob Try.prog.godebug = none := by kernel_rfl
theorem laidOut : laidOutB Try.prog = true := by kernel_rfl
set_option maxRecDepth 100000 in
theorem lifted (os : Os) (started : os.Started) (H : Type) (enc : TypeId × Value → H) :
    ReturnsInHanded {} Try.checked os 8 .any (Rows.fnExactCombinationSpec.pre6 enc Try.prog Try.f8 Rows.fnExactCombinationRow.domain false) (Rows.fnExactCombinationSpec.post enc Try.prog Try.f8 false true false false) := by
  refine returnsInHanded_of_change_sized (C := Try.checked) own started (by kernel_rfl) Try.func8
    (ChangeSpec.witness6 (enc := enc) (C := Try.checked) false ⟨#[], #[.agg #[.int .i64 0, .int .i64 0, .slice none 0 0], .slice none 0 0], []⟩ 8 (by kernel_rfl) (by kernel_rfl) (by kernel_rfl) (by kernel_rfl)) ?_
  intro W base args ds gs before hval0 hW hcnd hsz0 _
  have hval : ∀ (j : Nat) t v, Try.f8.params[j]? = some t → args[j]? = some v → Value.okWide Try.prog W .any base t v := hval0
  have hW' := hW
  obtain ⟨p, q, hA0, hV, rfl, hfz, hnd⟩ := hW
  have hA : DataW.TrodAll enc Try.prog W 0 (fun _ => true) true Try.f8.params.toList args.toList ds p := hA0
  rw [Try.params8] at hA hval
  obtain ⟨v0, vs0, d0, ds0, p0, q0, hargs, rfl, rfl, h0, r0⟩ := trodAll_cons hA
  obtain ⟨v1, vs1, d1, ds1, p1, q1, rfl, rfl, rfl, h1, r1⟩ := trodAll_cons r0
  obtain ⟨rfl, rfl, rfl⟩ := trodAll_nil r1
  obtain rfl : args = #[v0, v1] := by cases args; simp_all
  obtain ⟨rfl, rfl⟩ := trodVars_none hV
  have k0 := h0
  have lt0 : ∀ x ∈ p0, x.block < W.heap.size := by obtain ⟨m, hm⟩ := k0; exact DataW.trod_lt m _ _ _ hm
  obtain ⟨cs0, rfl, _⟩ := okWide_struct Try.underlying24 (hval 0 24 v0 rfl rfl)
  obtain ⟨x0, hK0, wf0⟩ := OpensAt.any opensS24 h0
  obtain ⟨A0_2, c0_2, e0, l0_2, g0_2⟩ := k24_open hK0
  obtain rfl : cs0 = #[.int .i64 x0.f0, .int .i64 x0.f1, .slice A0_2 x0.f2.length c0_2] := by cases cs0; simpa [Value.cells] using e0
  have k1 := h1
  have lt1 : ∀ x ∈ p1, x.block < W.heap.size := by obtain ⟨m, hm⟩ := k1; exact DataW.trod_lt m _ _ _ hm
  obtain ⟨a1, len1, cap1, rfl⟩ := okWide_slice Try.underlying35 (hval 1 35 v1 rfl rfl)
  obtain ⟨l1, ⟨A1, c1, e1, b1, g1⟩, wf1⟩ := OpensAt.any (opens_slice_any Try.underlying35 (by kernel_rfl) (fun n => opens_int n Try.underlying2)) h1
  simp [Value.cells] at e1
  obtain ⟨rfl, rfl, rfl⟩ := e1
  clear hA0 hval0 hsz0
  refine (P.laws_FnExactCombination.walk Pure.FnExactCombination x0 l1 _ _ _ _ W g0_2 l0_2 g1 b1 wf0 wf1).mono fun e W' ⟨he, bel⟩ => ?_
  subst he
  exact ⟨_, rfl, _, _, _, [], _, [], hW', trodAll_mk1 (shut_bool Try.underlying4 _), (trodAll_cons_mk (Below.trod laidOut (by kernel_rfl) (of_decide_eq_true (by kernel_rfl)) k0 bel lt0) (trodAll_cons_mk (Below.trod laidOut (by kernel_rfl) (of_decide_eq_true (by kernel_rfl)) k1 bel lt1) trodAll_mk0)), rfl, bel.frame _, fun h => by cases h⟩
theorem over : Rows.fnExactCombinationRow.holds Try.pinned (OpenSpec.ofChange Rows.fnExactCombinationSpec) :=
  OpenClaim.holds_of_wide 8 Try.f8 rfl rfl rfl rfl rfl rfl rfl ⟨rfl, rfl, rfl, rfl, rfl⟩ rfl rfl rfl rfl rfl (by kernel_rfl) Try.func8 (by kernel_rfl)
    (of_decide_eq_true (by kernel_rfl)) (by unfold Func.isWrapper; first | (rw [if_pos (by decide +kernel)]; kernel_rfl) | (rw [if_neg (by decide +kernel)]; exact ⟨rfl, rfl⟩))
    (fun os started H enc _ => lifted os started H enc)
theorem proved : Rows.FnExactCombinationSaid := over
#print axioms proved
end Go.Proofs.Ytjpbemomocccaaa.fnExactCombination
namespace Go.Proofs.Ytjpbemomocccaaa
/-- The row, under a short name, for the claim. -/
theorem fnExactCombination_holds : Rows.FnExactCombinationSaid := fnExactCombination.proved
end Go.Proofs.Ytjpbemomocccaaa
