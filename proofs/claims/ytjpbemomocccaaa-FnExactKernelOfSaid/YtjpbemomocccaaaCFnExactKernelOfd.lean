/- For every matrix the program's KernelOf and the reference's answer alike, the argument stays, and the result is memory of its own. This text: the theorem of the row, and part 4 of what it rests on. -/
import Derived.Test.YtjpbemomocccaaaCFnExactKernelOfc
import Derived.Below
import Derived.Carry
import Derived.ChangeArms
import Derived.ChangeOld
import Derived.Deep.Slices
import Derived.OpenShut
import Derived.ProofKit
import Derived.ShutString
import Derived.SizedLaws
import Derived.Test.YtjpbemomocccaaaRows
import Derived.WalkKit
import Derived.WideShapes
namespace Go.Proofs.Ytjpbemomocccaaa.P
open Go.RowKit Go.Proofs.YtjpbemomocccaaaW.PrintWords Go.Proofs.YtjpbemomocccaaaW.PrintLast Go.Proofs.YtjpbemomocccaaaW.PrintMore
attribute [local go_sem] max2_int min2_int max_two min_two max_three min_three max_four min_four
set_option linter.unusedVariables false
set_option linter.unusedSimpArgs false

/-! ### laws_FnExactKernelOf: function 4 (the law's walk, by a program of this session) -/
set_option maxHeartbeats 8000000 in
set_option maxRecDepth 100000 in
theorem laws_FnExactKernelOf.way0 (k : Nat) (a0_0 : Int) (a0_1 : Int) (A0_2 : Option Addr) (c0_2 : Nat) (l0_2 : List (List Int)) (s2 : Int) (w : World) (hr0_2 : Kd.C (Kd.slice 2 (Kd.int .i64)) w A0_2 l0_2.length l0_2) (hc0_2 : l0_2.length ≤ c0_2) (A3 : laws_szMatrix.f k a0_0 a0_1 l0_2 1048576 = some s2) (t9 : decide (s2 < 0) = true) :
    Calls Try.prog 4 #[.agg #[.int .i64 a0_0, .int .i64 a0_1, .slice A0_2 l0_2.length c0_2]] w fun e w' => e = .returned (.bool true) ∧ Below w.heap.size w w' := by
  have hu24 := Try.underlying24
  have HR0_2 := Aside0.mk hr0_2
  have HC0_2 := Aside0.mk hc0_2
  clear hr0_2 hc0_2
  have HB := Aside0.mk (Below.refl w.heap.size w)
  replace A3 := Aside0.mk A3
  go_enter Try.func4, Try.ntmps4
  go_wp2_with (first | ((with_reducible refine gate_callee (f := 12) rfl ?_); refine goesL_ (some 16) rfl rfl Try.func12 (by kernel_rfl) rfl #[.agg #[.int .i64 a0_0, .int .i64 a0_1, .slice A0_2 l0_2.length c0_2], .int .i64 1048576] rfl (by (try simp only [List.map_toArray, List.map_cons, List.map_nil]); first | done | rfl | (simp only [List.length_drop, List.length_take]; rfl)) ?_; (with_reducible refine (laws_szMatrix.calls k a0_0 a0_1 _ _ l0_2 1048576 s2 _ ?side1 ?side2 A3.out).mono ?_); (case side1 => exact Kd.C_below HR0_2.out (by repeat (first | (with_reducible first | exact HB.out | apply below_alloc | apply pw_below_drewN | apply below_drew1) | exact HB.out))); (case side2 => exact HC0_2.out); rintro e w1 ⟨rfl, hb⟩; refine ⟨_, rfl, ?_⟩; have n1_ := Aside0.mk (blk_below (g := w.heap.size) (o := .cells #[.int .i64 a0_0, .int .i64 a0_1, .slice A0_2 l0_2.length c0_2] 24 (0, 0)) (by repeat (first | exact blk_new_at (by simp) | (with_reducible refine blk_drewN ?_ _) | (with_reducible refine blk_drew ?_) | (with_reducible refine blk_alloc ?_ _))) hb); have n2_ := Aside0.mk (below_step (by repeat (first | (with_reducible first | exact HB.out | apply below_alloc | apply pw_below_drewN | apply below_drew1) | exact HB.out)) hb); have C4 : Aside0 (w.heap.size + 1 ≤ w1.heap.size) := ⟨by have h_ := hb.size; (try simp at h_); omega⟩; have CC := Aside0.mk C4.out; clear HB; have HX1 := n1_; clear n1_; have HB := n2_; clear n2_; (try clear hb); have hl5 : w.heap.size < w1.heap.size := blk_lt HX1.out; have hx6 : w1.cell? ⟨w.heap.size, 0, none⟩ = some (.int .i64 a0_0) := (blk_cell HX1.out 0).trans rfl; have hx7 : w1.cell? ⟨w.heap.size, 1, none⟩ = some (.int .i64 a0_1) := (blk_cell HX1.out 1).trans rfl; have hx8 : w1.cell? ⟨w.heap.size, 2, none⟩ = some (.slice A0_2 l0_2.length c0_2) := (blk_cell HX1.out 2).trans rfl))
  go_ret
  exact ⟨rfl, by repeat (first | (with_reducible first | exact HB.out | apply below_alloc | apply pw_below_drewN | apply below_drew1) | exact HB.out)⟩
set_option maxHeartbeats 8000000 in
set_option maxRecDepth 100000 in
theorem laws_FnExactKernelOf.way1 (k : Nat) (a0_0 : Int) (a0_1 : Int) (A0_2 : Option Addr) (c0_2 : Nat) (l0_2 : List (List Int)) (s2 : Int) (r18 : Int) (r19 : Int) (r20 : List (List Int)) (r21 : Int) (m117 : Int) (ys118 : List (List Int)) (m156 : Int) (ys157 : List (List Int)) (w : World) (hr0_2 : Kd.C (Kd.slice 2 (Kd.int .i64)) w A0_2 l0_2.length l0_2) (hc0_2 : l0_2.length ≤ c0_2) (A3 : laws_szMatrix.f k a0_0 a0_1 l0_2 1048576 = some s2) (t9 : decide (s2 < 0) = false) (A10 : laws_toMatrix.f k a0_0 a0_1 l0_2 = some (a0_0, a0_1, l0_2)) (A22 : spec_KernelOf.f k a0_0 a0_1 l0_2 = some (r18, r19, r20, r21)) (A31 : laws_toMatrix.f k a0_0 a0_1 l0_2 = some (a0_0, a0_1, l0_2)) (A44 : impl_KernelOf.f k a0_0 a0_1 l0_2 = some (r18, r19, r20, r21)) (A61 : laws_eqMatrix.f k r18 r19 r20 r18 r19 r20 = some true) (A79 : laws_toMatrix.f k a0_0 a0_1 l0_2 = some (a0_0, a0_1, l0_2)) (A99 : laws_eqMatrix.f k a0_0 a0_1 l0_2 a0_0 a0_1 l0_2 = some true) (A119 : laws_markMatrix.f k a0_0 a0_1 l0_2 1 = some (m117, ys118)) (t137 : decide (m117 < 0) = false) (A138 : laws_eqMatrix.f k r18 r19 r20 r18 r19 r20 = some true) (A158 : laws_markMatrix.f k r18 r19 r20 1 = some (m156, ys157)) (A176 : laws_heldMatrix.f k r18 r19 ys157 1 = some m156) (t194 : decide (m156 < 0) = false) (A195 : laws_toMatrix.f k a0_0 a0_1 l0_2 = some (a0_0, a0_1, l0_2)) (A215 : impl_KernelOf.f k a0_0 a0_1 l0_2 = some (r18, r19, r20, r21)) (A236 : laws_eqMatrix.f k r18 r19 r20 r18 r19 r20 = some true) (A258 : laws_heldMatrix.f k r18 r19 ys157 1 = some m156) (t280 : decide (m156 < 0) = false) :
    Calls Try.prog 4 #[.agg #[.int .i64 a0_0, .int .i64 a0_1, .slice A0_2 l0_2.length c0_2]] w fun e w' => e = .returned (.bool true) ∧ Below w.heap.size w w' := by
  have hu24 := Try.underlying24
  have hu26 := Try.underlying26
  have HR0_2 := Aside0.mk hr0_2
  have HC0_2 := Aside0.mk hc0_2
  clear hr0_2 hc0_2
  have HB := Aside0.mk (Below.refl w.heap.size w)
  replace A3 := Aside0.mk A3
  replace A10 := Aside0.mk A10
  replace A22 := Aside0.mk A22
  replace A31 := Aside0.mk A31
  replace A44 := Aside0.mk A44
  replace A61 := Aside0.mk A61
  replace A79 := Aside0.mk A79
  replace A99 := Aside0.mk A99
  replace A119 := Aside0.mk A119
  replace A138 := Aside0.mk A138
  replace A158 := Aside0.mk A158
  replace A176 := Aside0.mk A176
  replace A195 := Aside0.mk A195
  replace A215 := Aside0.mk A215
  replace A236 := Aside0.mk A236
  replace A258 := Aside0.mk A258
  go_enter Try.func4, Try.ntmps4
  go_wp2_with (first | ((with_reducible refine gate_callee (f := 12) rfl ?_); refine goesL_ (some 16) rfl rfl Try.func12 (by kernel_rfl) rfl #[.agg #[.int .i64 a0_0, .int .i64 a0_1, .slice A0_2 l0_2.length c0_2], .int .i64 1048576] rfl (by (try simp only [List.map_toArray, List.map_cons, List.map_nil]); first | done | rfl | (simp only [List.length_drop, List.length_take]; rfl)) ?_; (with_reducible refine (laws_szMatrix.calls k a0_0 a0_1 _ _ l0_2 1048576 s2 _ ?side1 ?side2 A3.out).mono ?_); (case side1 => exact Kd.C_below HR0_2.out (by repeat (first | (with_reducible first | exact HB.out | apply below_alloc | apply pw_below_drewN | apply below_drew1) | exact HB.out))); (case side2 => exact HC0_2.out); rintro e w1 ⟨rfl, hb⟩; refine ⟨_, rfl, ?_⟩; have n1_ := Aside0.mk (blk_below (g := w.heap.size) (o := .cells #[.int .i64 a0_0, .int .i64 a0_1, .slice A0_2 l0_2.length c0_2] 24 (0, 0)) (by repeat (first | exact blk_new_at (by simp) | (with_reducible refine blk_drewN ?_ _) | (with_reducible refine blk_drew ?_) | (with_reducible refine blk_alloc ?_ _))) hb); have n2_ := Aside0.mk (below_step (by repeat (first | (with_reducible first | exact HB.out | apply below_alloc | apply pw_below_drewN | apply below_drew1) | exact HB.out)) hb); have C4 : Aside0 (w.heap.size + 1 ≤ w1.heap.size) := ⟨by have h_ := hb.size; (try simp at h_); omega⟩; have CC := Aside0.mk C4.out; clear HB; have HX1 := n1_; clear n1_; have HB := n2_; clear n2_; (try clear hb); have hl5 : w.heap.size < w1.heap.size := blk_lt HX1.out; have hx6 : w1.cell? ⟨w.heap.size, 0, none⟩ = some (.int .i64 a0_0) := (blk_cell HX1.out 0).trans rfl; have hx7 : w1.cell? ⟨w.heap.size, 1, none⟩ = some (.int .i64 a0_1) := (blk_cell HX1.out 1).trans rfl; have hx8 : w1.cell? ⟨w.heap.size, 2, none⟩ = some (.slice A0_2 l0_2.length c0_2) := (blk_cell HX1.out 2).trans rfl) | ((with_reducible refine gate_callee (f := 14) rfl ?_); refine goesL_ (some 21) rfl rfl Try.func14 (by kernel_rfl) rfl #[.agg #[.int .i64 a0_0, .int .i64 a0_1, .slice A0_2 l0_2.length c0_2]] rfl (by (try simp only [List.map_toArray, List.map_cons, List.map_nil]); first | done | rfl | (simp only [List.length_drop, List.length_take]; rfl)) ?_; (with_reducible refine (laws_toMatrix.calls k a0_0 a0_1 _ _ l0_2 a0_0 a0_1 l0_2 _ ?side1 ?side2 A10.out).mono ?_); (case side1 => exact Kd.C_below HR0_2.out (by repeat (first | (with_reducible first | exact HB.out | apply below_alloc | apply pw_below_drewN | apply below_drew1) | exact HB.out))); (case side2 => exact HC0_2.out); rintro e w2 ⟨v100_, rfl, ho0_, hb⟩; refine ⟨_, rfl, ?_⟩; have n1_ := Aside0.mk (blk_below (g := w.heap.size) (o := .cells #[.int .i64 a0_0, .int .i64 a0_1, .slice A0_2 l0_2.length c0_2] 24 (0, 0)) (by (with_reducible repeat (first | refine blk_drewN ?_ _ | refine blk_drew ?_ | refine blk_alloc ?_ _)); exact HX1.out) hb); have n2_ := Aside0.mk (below_step (by repeat (first | (with_reducible first | exact HB.out | apply below_alloc | apply pw_below_drewN | apply below_drew1) | exact HB.out)) hb); have C11 : Aside0 (w1.heap.size ≤ w2.heap.size) := ⟨by have h_ := hb.size; (try simp at h_); omega⟩; have CCn_ := Aside0.mk (And.intro CC.out C11.out); clear CC; have CC := CCn_; clear CCn_; clear HX1; clear HB; clear hl5; clear hx6; clear hx7; clear hx8; have HX1 := n1_; clear n1_; have HB := n2_; clear n2_; have HO12 := Aside0.mk (Kd.S_lower (base' := w.heap.size) (Kd.S_mono (Kd.S_bound ho0_) (ok' := fun k_ => w1.heap.size ≤ k_ ∧ k_ < w2.heap.size) (fun k_ hk_ => ⟨by have h_ := hk_.2.1; (try simp at h_); omega, hk_.2.2.1⟩)) (by have := CC.out; first | omega | (simp; done) | (simp; omega))); obtain ⟨Az13, cz13, ez13⟩ := Kd.S_slice HO12.out; subst ez13; (try clear hb); (try clear ho0_); have hl14 : w.heap.size < w2.heap.size := blk_lt HX1.out; have hx15 : w2.cell? ⟨w.heap.size, 0, none⟩ = some (.int .i64 a0_0) := (blk_cell HX1.out 0).trans rfl; have hx16 : w2.cell? ⟨w.heap.size, 1, none⟩ = some (.int .i64 a0_1) := (blk_cell HX1.out 1).trans rfl; have hx17 : w2.cell? ⟨w.heap.size, 2, none⟩ = some (.slice A0_2 l0_2.length c0_2) := (blk_cell HX1.out 2).trans rfl) | ((with_reducible refine gate_callee (f := 19) rfl ?_); refine goesL_ (some 22) rfl rfl Try.func19 (by kernel_rfl) rfl #[.agg #[.int .i64 a0_0, .int .i64 a0_1, .slice Az13 l0_2.length cz13]] rfl (by (try simp only [List.map_toArray, List.map_cons, List.map_nil]); first | done | rfl | (simp only [List.length_drop, List.length_take]; rfl)) ?_; (with_reducible refine (spec_KernelOf.calls k a0_0 a0_1 _ _ l0_2 r18 r19 r20 r21 _ ?side1 ?side2 A22.out).mono ?_); (case side1 => exact (Kd.S_reads' (n := l0_2.length) (A := Az13) (c := cz13) (by (with_reducible repeat (first | apply Kd.S_alloc | apply Kd.S_drewN | apply Kd.S_drew)); exact HO12.out)).2.2); (case side2 => exact (Kd.S_reads' (n := l0_2.length) (A := Az13) (c := cz13) HO12.out).2.1); rintro e w3 ⟨v100_, rfl, ho0_, hb⟩; refine ⟨_, rfl, ?_⟩; have n1_ := Aside0.mk (Kd.S_below (by (with_reducible repeat (first | apply Kd.S_alloc | apply Kd.S_drewN | apply Kd.S_drew)); exact HO12.out) hb); have n2_ := Aside0.mk (blk_below (g := w.heap.size) (o := .cells #[.int .i64 a0_0, .int .i64 a0_1, .slice A0_2 l0_2.length c0_2] 24 (0, 0)) (by (with_reducible repeat (first | refine blk_drewN ?_ _ | refine blk_drew ?_ | refine blk_alloc ?_ _)); exact HX1.out) hb); have n3_ := Aside0.mk (below_step (by repeat (first | (with_reducible first | exact HB.out | apply below_alloc | apply pw_below_drewN | apply below_drew1) | exact HB.out)) hb); have C23 : Aside0 (w2.heap.size ≤ w3.heap.size) := ⟨by have h_ := hb.size; (try simp at h_); omega⟩; have CCn_ := Aside0.mk (And.intro CC.out C23.out); clear CC; have CC := CCn_; clear CCn_; clear HO12; clear HX1; clear HB; clear hl14; clear hx15; clear hx16; clear hx17; have HO12 := n1_; clear n1_; have HX1 := n2_; clear n2_; have HB := n3_; clear n3_; have HO24 := Aside0.mk (Kd.S_lower (base' := w.heap.size) (Kd.S_mono (Kd.S_bound ho0_) (ok' := fun k_ => w2.heap.size ≤ k_ ∧ k_ < w3.heap.size) (fun k_ hk_ => ⟨by have h_ := hk_.2.1; (try simp at h_); omega, hk_.2.2.1⟩)) (by have := CC.out; first | omega | (simp; done) | (simp; omega))); obtain ⟨Az25, cz25, ez25⟩ := Kd.S_slice HO24.out; subst ez25; (try clear hb); (try clear ho0_); have hl26 : w.heap.size < w3.heap.size := blk_lt HX1.out; have hx27 : w3.cell? ⟨w.heap.size, 0, none⟩ = some (.int .i64 a0_0) := (blk_cell HX1.out 0).trans rfl; have hx28 : w3.cell? ⟨w.heap.size, 1, none⟩ = some (.int .i64 a0_1) := (blk_cell HX1.out 1).trans rfl; have hx29 : w3.cell? ⟨w.heap.size, 2, none⟩ = some (.slice A0_2 l0_2.length c0_2) := (blk_cell HX1.out 2).trans rfl) | ((with_reducible refine gate_callee (f := 14) rfl ?_); refine goesL_ (some 26) rfl rfl Try.func14 (by kernel_rfl) rfl #[.agg #[.int .i64 a0_0, .int .i64 a0_1, .slice A0_2 l0_2.length c0_2]] rfl (by (try simp only [List.map_toArray, List.map_cons, List.map_nil]); first | done | rfl | (simp only [List.length_drop, List.length_take]; rfl)) ?_; (with_reducible refine (laws_toMatrix.calls k a0_0 a0_1 _ _ l0_2 a0_0 a0_1 l0_2 _ ?side1 ?side2 A31.out).mono ?_); (case side1 => exact Kd.C_below HR0_2.out (by repeat (first | (with_reducible first | exact HB.out | apply below_alloc | apply pw_below_drewN | apply below_drew1) | exact HB.out))); (case side2 => exact HC0_2.out); rintro e w4 ⟨v100_, rfl, ho0_, hb⟩; refine ⟨_, rfl, ?_⟩; have n1_ := Aside0.mk (Kd.S_below (by (with_reducible repeat (first | apply Kd.S_alloc | apply Kd.S_drewN | apply Kd.S_drew)); exact HO24.out) hb); have n2_ := Aside0.mk (blk_below (g := w.heap.size) (o := .cells #[.int .i64 a0_0, .int .i64 a0_1, .slice A0_2 l0_2.length c0_2] 24 (0, 0)) (by (with_reducible repeat (first | refine blk_drewN ?_ _ | refine blk_drew ?_ | refine blk_alloc ?_ _)); exact HX1.out) hb); have n3_ := Aside0.mk (blk_below (g := w3.heap.size) (o := .cells #[.int .i64 r18, .int .i64 r19, .slice Az25 r20.length cz25] 26 (0, 0)) (by repeat (first | exact blk_new_at (by simp) | (with_reducible refine blk_drewN ?_ _) | (with_reducible refine blk_drew ?_) | (with_reducible refine blk_alloc ?_ _))) hb); have n4_ := Aside0.mk (below_step (by repeat (first | (with_reducible first | exact HB.out | apply below_alloc | apply pw_below_drewN | apply below_drew1) | exact HB.out)) hb); have C32 : Aside0 (w3.heap.size + 1 ≤ w4.heap.size) := ⟨by have h_ := hb.size; (try simp at h_); omega⟩; have CCn_ := Aside0.mk (And.intro CC.out C32.out); clear CC; have CC := CCn_; clear CCn_; clear HO24; clear HX1; clear HB; clear hl26; clear hx27; clear hx28; clear hx29; have HO24 := n1_; clear n1_; have HX1 := n2_; clear n2_; have HX30 := n3_; clear n3_; have HB := n4_; clear n4_; have HO33 := Aside0.mk (Kd.S_lower (base' := w.heap.size) (Kd.S_mono (Kd.S_bound ho0_) (ok' := fun k_ => w3.heap.size + 1 ≤ k_ ∧ k_ < w4.heap.size) (fun k_ hk_ => ⟨by have h_ := hk_.2.1; (try simp at h_); omega, hk_.2.2.1⟩)) (by have := CC.out; first | omega | (simp; done) | (simp; omega))); obtain ⟨Az34, cz34, ez34⟩ := Kd.S_slice HO33.out; subst ez34; (try clear hb); (try clear ho0_); have hl35 : w.heap.size < w4.heap.size := blk_lt HX1.out; have hx36 : w4.cell? ⟨w.heap.size, 0, none⟩ = some (.int .i64 a0_0) := (blk_cell HX1.out 0).trans rfl; have hx37 : w4.cell? ⟨w.heap.size, 1, none⟩ = some (.int .i64 a0_1) := (blk_cell HX1.out 1).trans rfl; have hx38 : w4.cell? ⟨w.heap.size, 2, none⟩ = some (.slice A0_2 l0_2.length c0_2) := (blk_cell HX1.out 2).trans rfl; have hl39 : w3.heap.size < w4.heap.size := blk_lt HX30.out; have hx40 : w4.cell? ⟨w3.heap.size, 0, none⟩ = some (.int .i64 r18) := (blk_cell HX30.out 0).trans rfl; have hx41 : w4.cell? ⟨w3.heap.size, 1, none⟩ = some (.int .i64 r19) := (blk_cell HX30.out 1).trans rfl; have hx42 : w4.cell? ⟨w3.heap.size, 2, none⟩ = some (.slice Az25 r20.length cz25) := (blk_cell HX30.out 2).trans rfl) | ((with_reducible refine gate_callee (f := 20) rfl ?_); refine goesL_ (some 29) rfl rfl Try.func20 (by kernel_rfl) rfl #[.agg #[.int .i64 a0_0, .int .i64 a0_1, .slice Az34 l0_2.length cz34]] rfl (by (try simp only [List.map_toArray, List.map_cons, List.map_nil]); first | done | rfl | (simp only [List.length_drop, List.length_take]; rfl)) ?_; (with_reducible refine (impl_KernelOf.calls k a0_0 a0_1 _ _ l0_2 r18 r19 r20 r21 _ ?side1 ?side2 A44.out).mono ?_); (case side1 => exact (Kd.S_reads' (n := l0_2.length) (A := Az34) (c := cz34) (by (with_reducible repeat (first | apply Kd.S_alloc | apply Kd.S_drewN | apply Kd.S_drew)); exact HO33.out)).2.2); (case side2 => exact (Kd.S_reads' (n := l0_2.length) (A := Az34) (c := cz34) HO33.out).2.1); rintro e w5 ⟨v100_, rfl, ho0_, hb⟩; refine ⟨_, rfl, ?_⟩; have n1_ := Aside0.mk (Kd.S_below (by (with_reducible repeat (first | apply Kd.S_alloc | apply Kd.S_drewN | apply Kd.S_drew)); exact HO24.out) hb); have n2_ := Aside0.mk (Kd.S_below (by (with_reducible repeat (first | apply Kd.S_alloc | apply Kd.S_drewN | apply Kd.S_drew)); exact HO33.out) hb); have n3_ := Aside0.mk (blk_below (g := w.heap.size) (o := .cells #[.int .i64 a0_0, .int .i64 a0_1, .slice A0_2 l0_2.length c0_2] 24 (0, 0)) (by (with_reducible repeat (first | refine blk_drewN ?_ _ | refine blk_drew ?_ | refine blk_alloc ?_ _)); exact HX1.out) hb); have n4_ := Aside0.mk (blk_below (g := w3.heap.size) (o := .cells #[.int .i64 r18, .int .i64 r19, .slice Az25 r20.length cz25] 26 (0, 0)) (by (with_reducible repeat (first | refine blk_drewN ?_ _ | refine blk_drew ?_ | refine blk_alloc ?_ _)); exact HX30.out) hb); have n5_ := Aside0.mk (blk_below (g := w4.heap.size) (o := .cells #[.int .i64 a0_0, .int .i64 a0_1, .slice Az34 l0_2.length cz34] 26 (0, 0)) (by repeat (first | exact blk_new_at (by simp) | (with_reducible refine blk_drewN ?_ _) | (with_reducible refine blk_drew ?_) | (with_reducible refine blk_alloc ?_ _))) hb); have n6_ := Aside0.mk (below_step (by repeat (first | (with_reducible first | exact HB.out | apply below_alloc | apply pw_below_drewN | apply below_drew1) | exact HB.out)) hb); have C45 : Aside0 (w4.heap.size + 1 ≤ w5.heap.size) := ⟨by have h_ := hb.size; (try simp at h_); omega⟩; have CCn_ := Aside0.mk (And.intro CC.out C45.out); clear CC; have CC := CCn_; clear CCn_; clear HO24; clear HO33; clear HX1; clear HX30; clear HB; clear hl35; clear hx36; clear hx37; clear hx38; clear hl39; clear hx40; clear hx41; clear hx42; have HO24 := n1_; clear n1_; have HO33 := n2_; clear n2_; have HX1 := n3_; clear n3_; have HX30 := n4_; clear n4_; have HX43 := n5_; clear n5_; have HB := n6_; clear n6_; have HO46 := Aside0.mk (Kd.S_lower (base' := w.heap.size) (Kd.S_mono (Kd.S_bound ho0_) (ok' := fun k_ => w4.heap.size + 1 ≤ k_ ∧ k_ < w5.heap.size) (fun k_ hk_ => ⟨by have h_ := hk_.2.1; (try simp at h_); omega, hk_.2.2.1⟩)) (by have := CC.out; first | omega | (simp; done) | (simp; omega))); obtain ⟨Az47, cz47, ez47⟩ := Kd.S_slice HO46.out; subst ez47; (try clear hb); (try clear ho0_); have hl48 : w.heap.size < w5.heap.size := blk_lt HX1.out; have hx49 : w5.cell? ⟨w.heap.size, 0, none⟩ = some (.int .i64 a0_0) := (blk_cell HX1.out 0).trans rfl; have hx50 : w5.cell? ⟨w.heap.size, 1, none⟩ = some (.int .i64 a0_1) := (blk_cell HX1.out 1).trans rfl; have hx51 : w5.cell? ⟨w.heap.size, 2, none⟩ = some (.slice A0_2 l0_2.length c0_2) := (blk_cell HX1.out 2).trans rfl; have hl52 : w3.heap.size < w5.heap.size := blk_lt HX30.out; have hx53 : w5.cell? ⟨w3.heap.size, 0, none⟩ = some (.int .i64 r18) := (blk_cell HX30.out 0).trans rfl; have hx54 : w5.cell? ⟨w3.heap.size, 1, none⟩ = some (.int .i64 r19) := (blk_cell HX30.out 1).trans rfl; have hx55 : w5.cell? ⟨w3.heap.size, 2, none⟩ = some (.slice Az25 r20.length cz25) := (blk_cell HX30.out 2).trans rfl; have hl56 : w4.heap.size < w5.heap.size := blk_lt HX43.out; have hx57 : w5.cell? ⟨w4.heap.size, 0, none⟩ = some (.int .i64 a0_0) := (blk_cell HX43.out 0).trans rfl; have hx58 : w5.cell? ⟨w4.heap.size, 1, none⟩ = some (.int .i64 a0_1) := (blk_cell HX43.out 1).trans rfl; have hx59 : w5.cell? ⟨w4.heap.size, 2, none⟩ = some (.slice Az34 l0_2.length cz34) := (blk_cell HX43.out 2).trans rfl) | ((with_reducible refine gate_callee (f := 16) rfl ?_); refine goesL_ (some 34) rfl rfl Try.func16 (by kernel_rfl) rfl #[.agg #[.int .i64 r18, .int .i64 r19, .slice Az47 r20.length cz47], .agg #[.int .i64 r18, .int .i64 r19, .slice Az25 r20.length cz25]] rfl (by (try simp only [List.map_toArray, List.map_cons, List.map_nil]); first | done | rfl | (simp only [List.length_drop, List.length_take]; rfl)) ?_; (with_reducible refine (laws_eqMatrix.calls k r18 r19 _ _ r20 r18 r19 _ _ r20 true _ ?side1 ?side2 ?side3 ?side4 A61.out).mono ?_); (case side1 => exact (Kd.S_reads' (n := r20.length) (A := Az47) (c := cz47) (by (with_reducible repeat (first | apply Kd.S_alloc | apply Kd.S_drewN | apply Kd.S_drew)); exact HO46.out)).2.2); (case side2 => exact (Kd.S_reads' (n := r20.length) (A := Az47) (c := cz47) HO46.out).2.1); (case side3 => exact (Kd.S_reads' (n := r20.length) (A := Az25) (c := cz25) (by (with_reducible repeat (first | apply Kd.S_alloc | apply Kd.S_drewN | apply Kd.S_drew)); exact HO24.out)).2.2); (case side4 => exact (Kd.S_reads' (n := r20.length) (A := Az25) (c := cz25) HO24.out).2.1); rintro e w6 ⟨rfl, hb⟩; refine ⟨_, rfl, ?_⟩; have n1_ := Aside0.mk (Kd.S_below (by (with_reducible repeat (first | apply Kd.S_alloc | apply Kd.S_drewN | apply Kd.S_drew)); exact HO24.out) hb); have n2_ := Aside0.mk (Kd.S_below (by (with_reducible repeat (first | apply Kd.S_alloc | apply Kd.S_drewN | apply Kd.S_drew)); exact HO33.out) hb); have n3_ := Aside0.mk (Kd.S_below (by (with_reducible repeat (first | apply Kd.S_alloc | apply Kd.S_drewN | apply Kd.S_drew)); exact HO46.out) hb); have n4_ := Aside0.mk (blk_below (g := w.heap.size) (o := .cells #[.int .i64 a0_0, .int .i64 a0_1, .slice A0_2 l0_2.length c0_2] 24 (0, 0)) (by (with_reducible repeat (first | refine blk_drewN ?_ _ | refine blk_drew ?_ | refine blk_alloc ?_ _)); exact HX1.out) hb); have n5_ := Aside0.mk (blk_below (g := w3.heap.size) (o := .cells #[.int .i64 r18, .int .i64 r19, .slice Az25 r20.length cz25] 26 (0, 0)) (by (with_reducible repeat (first | refine blk_drewN ?_ _ | refine blk_drew ?_ | refine blk_alloc ?_ _)); exact HX30.out) hb); have n6_ := Aside0.mk (blk_below (g := w4.heap.size) (o := .cells #[.int .i64 a0_0, .int .i64 a0_1, .slice Az34 l0_2.length cz34] 26 (0, 0)) (by (with_reducible repeat (first | refine blk_drewN ?_ _ | refine blk_drew ?_ | refine blk_alloc ?_ _)); exact HX43.out) hb); have n7_ := Aside0.mk (blk_below (g := w5.heap.size) (o := .cells #[.int .i64 r18, .int .i64 r19, .slice Az47 r20.length cz47] 26 (0, 0)) (by repeat (first | exact blk_new_at (by simp) | (with_reducible refine blk_drewN ?_ _) | (with_reducible refine blk_drew ?_) | (with_reducible refine blk_alloc ?_ _))) hb); have n8_ := Aside0.mk (below_step (by repeat (first | (with_reducible first | exact HB.out | apply below_alloc | apply pw_below_drewN | apply below_drew1) | exact HB.out)) hb); have C62 : Aside0 (w5.heap.size + 1 ≤ w6.heap.size) := ⟨by have h_ := hb.size; (try simp at h_); omega⟩; have CCn_ := Aside0.mk (And.intro CC.out C62.out); clear CC; have CC := CCn_; clear CCn_; clear HO24; clear HO33; clear HO46; clear HX1; clear HX30; clear HX43; clear HB; clear hl48; clear hx49; clear hx50; clear hx51; clear hl52; clear hx53; clear hx54; clear hx55; clear hl56; clear hx57; clear hx58; clear hx59; have HO24 := n1_; clear n1_; have HO33 := n2_; clear n2_; have HO46 := n3_; clear n3_; have HX1 := n4_; clear n4_; have HX30 := n5_; clear n5_; have HX43 := n6_; clear n6_; have HX60 := n7_; clear n7_; have HB := n8_; clear n8_; (try clear hb); have hl63 : w.heap.size < w6.heap.size := blk_lt HX1.out; have hx64 : w6.cell? ⟨w.heap.size, 0, none⟩ = some (.int .i64 a0_0) := (blk_cell HX1.out 0).trans rfl; have hx65 : w6.cell? ⟨w.heap.size, 1, none⟩ = some (.int .i64 a0_1) := (blk_cell HX1.out 1).trans rfl; have hx66 : w6.cell? ⟨w.heap.size, 2, none⟩ = some (.slice A0_2 l0_2.length c0_2) := (blk_cell HX1.out 2).trans rfl; have hl67 : w3.heap.size < w6.heap.size := blk_lt HX30.out; have hx68 : w6.cell? ⟨w3.heap.size, 0, none⟩ = some (.int .i64 r18) := (blk_cell HX30.out 0).trans rfl; have hx69 : w6.cell? ⟨w3.heap.size, 1, none⟩ = some (.int .i64 r19) := (blk_cell HX30.out 1).trans rfl; have hx70 : w6.cell? ⟨w3.heap.size, 2, none⟩ = some (.slice Az25 r20.length cz25) := (blk_cell HX30.out 2).trans rfl; have hl71 : w4.heap.size < w6.heap.size := blk_lt HX43.out; have hx72 : w6.cell? ⟨w4.heap.size, 0, none⟩ = some (.int .i64 a0_0) := (blk_cell HX43.out 0).trans rfl; have hx73 : w6.cell? ⟨w4.heap.size, 1, none⟩ = some (.int .i64 a0_1) := (blk_cell HX43.out 1).trans rfl; have hx74 : w6.cell? ⟨w4.heap.size, 2, none⟩ = some (.slice Az34 l0_2.length cz34) := (blk_cell HX43.out 2).trans rfl; have hl75 : w5.heap.size < w6.heap.size := blk_lt HX60.out; have hx76 : w6.cell? ⟨w5.heap.size, 0, none⟩ = some (.int .i64 r18) := (blk_cell HX60.out 0).trans rfl; have hx77 : w6.cell? ⟨w5.heap.size, 1, none⟩ = some (.int .i64 r19) := (blk_cell HX60.out 1).trans rfl; have hx78 : w6.cell? ⟨w5.heap.size, 2, none⟩ = some (.slice Az47 r20.length cz47) := (blk_cell HX60.out 2).trans rfl))
  go_region_held3 (fun w' => w'.cell? ⟨w4.heap.size, 0, none⟩ = some (.int .i64 a0_0) ∧ w'.cell? ⟨w4.heap.size, 1, none⟩ = some (.int .i64 a0_1) ∧ w'.cell? ⟨w4.heap.size, 2, none⟩ = some (.slice Az34 l0_2.length cz34) ∧ w'.cell? ⟨w.heap.size, 0, none⟩ = some (.int .i64 a0_0) ∧ w'.cell? ⟨w.heap.size, 1, none⟩ = some (.int .i64 a0_1) ∧ w'.cell? ⟨w.heap.size, 2, none⟩ = some (.slice A0_2 l0_2.length c0_2)) (first | ((repeat' apply And.intro) <;> assumption) | go_keep) (first | (go_at_call 14; (with_reducible refine (laws_toMatrix.calls k a0_0 a0_1 _ _ l0_2 a0_0 a0_1 l0_2 _ ?side1 ?side2 A79.out).mono ?_); (case side1 => exact Kd.C_below HR0_2.out (by repeat (first | (with_reducible first | exact HB.out | apply below_alloc | apply pw_below_drewN | apply below_drew1) | exact HB.out))); (case side2 => exact HC0_2.out); rintro e w7 ⟨v100_, rfl, ho0_, hb⟩; have n1_ := Aside0.mk (Kd.S_below (by (with_reducible repeat (first | apply Kd.S_alloc | apply Kd.S_drewN | apply Kd.S_drew)); exact HO24.out) hb); have n2_ := Aside0.mk (Kd.S_below (by (with_reducible repeat (first | apply Kd.S_alloc | apply Kd.S_drewN | apply Kd.S_drew)); exact HO33.out) hb); have n3_ := Aside0.mk (Kd.S_below (by (with_reducible repeat (first | apply Kd.S_alloc | apply Kd.S_drewN | apply Kd.S_drew)); exact HO46.out) hb); have n4_ := Aside0.mk (blk_below (g := w.heap.size) (o := .cells #[.int .i64 a0_0, .int .i64 a0_1, .slice A0_2 l0_2.length c0_2] 24 (0, 0)) (by (with_reducible repeat (first | refine blk_drewN ?_ _ | refine blk_drew ?_ | refine blk_alloc ?_ _)); exact HX1.out) hb); have n5_ := Aside0.mk (blk_below (g := w3.heap.size) (o := .cells #[.int .i64 r18, .int .i64 r19, .slice Az25 r20.length cz25] 26 (0, 0)) (by (with_reducible repeat (first | refine blk_drewN ?_ _ | refine blk_drew ?_ | refine blk_alloc ?_ _)); exact HX30.out) hb); have n6_ := Aside0.mk (blk_below (g := w4.heap.size) (o := .cells #[.int .i64 a0_0, .int .i64 a0_1, .slice Az34 l0_2.length cz34] 26 (0, 0)) (by (with_reducible repeat (first | refine blk_drewN ?_ _ | refine blk_drew ?_ | refine blk_alloc ?_ _)); exact HX43.out) hb); have n7_ := Aside0.mk (blk_below (g := w5.heap.size) (o := .cells #[.int .i64 r18, .int .i64 r19, .slice Az47 r20.length cz47] 26 (0, 0)) (by (with_reducible repeat (first | refine blk_drewN ?_ _ | refine blk_drew ?_ | refine blk_alloc ?_ _)); exact HX60.out) hb); have n8_ := Aside0.mk (below_step (by repeat (first | (with_reducible first | exact HB.out | apply below_alloc | apply pw_below_drewN | apply below_drew1) | exact HB.out)) hb); have C80 : Aside0 (w6.heap.size ≤ w7.heap.size) := ⟨by have h_ := hb.size; (try simp at h_); omega⟩; have CCn_ := Aside0.mk (And.intro CC.out C80.out); clear CC; have CC := CCn_; clear CCn_; clear HO24; clear HO33; clear HO46; clear HX1; clear HX30; clear HX43; clear HX60; clear HB; clear hl63; clear hx64; clear hx65; clear hx66; clear hl67; clear hx68; clear hx69; clear hx70; clear hl71; clear hx72; clear hx73; clear hx74; clear hl75; clear hx76; clear hx77; clear hx78; have HO24 := n1_; clear n1_; have HO33 := n2_; clear n2_; have HO46 := n3_; clear n3_; have HX1 := n4_; clear n4_; have HX30 := n5_; clear n5_; have HX43 := n6_; clear n6_; have HX60 := n7_; clear n7_; have HB := n8_; clear n8_; have HO81 := Aside0.mk (Kd.S_lower (base' := w.heap.size) (Kd.S_mono (Kd.S_bound ho0_) (ok' := fun k_ => w6.heap.size ≤ k_ ∧ k_ < w7.heap.size) (fun k_ hk_ => ⟨by have h_ := hk_.2.1; (try simp at h_); omega, hk_.2.2.1⟩)) (by have := CC.out; first | omega | (simp; done) | (simp; omega))); obtain ⟨Az82, cz82, ez82⟩ := Kd.S_slice HO81.out; subst ez82; (try clear hb); (try clear ho0_); have hl83 : w.heap.size < w7.heap.size := blk_lt HX1.out; have hx84 : w7.cell? ⟨w.heap.size, 0, none⟩ = some (.int .i64 a0_0) := (blk_cell HX1.out 0).trans rfl; have hx85 : w7.cell? ⟨w.heap.size, 1, none⟩ = some (.int .i64 a0_1) := (blk_cell HX1.out 1).trans rfl; have hx86 : w7.cell? ⟨w.heap.size, 2, none⟩ = some (.slice A0_2 l0_2.length c0_2) := (blk_cell HX1.out 2).trans rfl; have hl87 : w3.heap.size < w7.heap.size := blk_lt HX30.out; have hx88 : w7.cell? ⟨w3.heap.size, 0, none⟩ = some (.int .i64 r18) := (blk_cell HX30.out 0).trans rfl; have hx89 : w7.cell? ⟨w3.heap.size, 1, none⟩ = some (.int .i64 r19) := (blk_cell HX30.out 1).trans rfl; have hx90 : w7.cell? ⟨w3.heap.size, 2, none⟩ = some (.slice Az25 r20.length cz25) := (blk_cell HX30.out 2).trans rfl; have hl91 : w4.heap.size < w7.heap.size := blk_lt HX43.out; have hx92 : w7.cell? ⟨w4.heap.size, 0, none⟩ = some (.int .i64 a0_0) := (blk_cell HX43.out 0).trans rfl; have hx93 : w7.cell? ⟨w4.heap.size, 1, none⟩ = some (.int .i64 a0_1) := (blk_cell HX43.out 1).trans rfl; have hx94 : w7.cell? ⟨w4.heap.size, 2, none⟩ = some (.slice Az34 l0_2.length cz34) := (blk_cell HX43.out 2).trans rfl; have hl95 : w5.heap.size < w7.heap.size := blk_lt HX60.out; have hx96 : w7.cell? ⟨w5.heap.size, 0, none⟩ = some (.int .i64 r18) := (blk_cell HX60.out 0).trans rfl; have hx97 : w7.cell? ⟨w5.heap.size, 1, none⟩ = some (.int .i64 r19) := (blk_cell HX60.out 1).trans rfl; have hx98 : w7.cell? ⟨w5.heap.size, 2, none⟩ = some (.slice Az47 r20.length cz47) := (blk_cell HX60.out 2).trans rfl) | (go_at_call 16; (with_reducible refine (laws_eqMatrix.calls k a0_0 a0_1 _ _ l0_2 a0_0 a0_1 _ _ l0_2 true _ ?side1 ?side2 ?side3 ?side4 A99.out).mono ?_); (case side1 => exact (Kd.S_reads' (n := l0_2.length) (A := Az34) (c := cz34) (by (with_reducible repeat (first | apply Kd.S_alloc | apply Kd.S_drewN | apply Kd.S_drew)); exact HO33.out)).2.2); (case side2 => exact (Kd.S_reads' (n := l0_2.length) (A := Az34) (c := cz34) HO33.out).2.1); (case side3 => exact (Kd.S_reads' (n := l0_2.length) (A := Az82) (c := cz82) (by (with_reducible repeat (first | apply Kd.S_alloc | apply Kd.S_drewN | apply Kd.S_drew)); exact HO81.out)).2.2); (case side4 => exact (Kd.S_reads' (n := l0_2.length) (A := Az82) (c := cz82) HO81.out).2.1); rintro e w8 ⟨rfl, hb⟩; have n1_ := Aside0.mk (Kd.S_below (by (with_reducible repeat (first | apply Kd.S_alloc | apply Kd.S_drewN | apply Kd.S_drew)); exact HO24.out) hb); have n2_ := Aside0.mk (Kd.S_below (by (with_reducible repeat (first | apply Kd.S_alloc | apply Kd.S_drewN | apply Kd.S_drew)); exact HO33.out) hb); have n3_ := Aside0.mk (Kd.S_below (by (with_reducible repeat (first | apply Kd.S_alloc | apply Kd.S_drewN | apply Kd.S_drew)); exact HO46.out) hb); have n4_ := Aside0.mk (Kd.S_below (by (with_reducible repeat (first | apply Kd.S_alloc | apply Kd.S_drewN | apply Kd.S_drew)); exact HO81.out) hb); have n5_ := Aside0.mk (blk_below (g := w.heap.size) (o := .cells #[.int .i64 a0_0, .int .i64 a0_1, .slice A0_2 l0_2.length c0_2] 24 (0, 0)) (by (with_reducible repeat (first | refine blk_drewN ?_ _ | refine blk_drew ?_ | refine blk_alloc ?_ _)); exact HX1.out) hb); have n6_ := Aside0.mk (blk_below (g := w3.heap.size) (o := .cells #[.int .i64 r18, .int .i64 r19, .slice Az25 r20.length cz25] 26 (0, 0)) (by (with_reducible repeat (first | refine blk_drewN ?_ _ | refine blk_drew ?_ | refine blk_alloc ?_ _)); exact HX30.out) hb); have n7_ := Aside0.mk (blk_below (g := w4.heap.size) (o := .cells #[.int .i64 a0_0, .int .i64 a0_1, .slice Az34 l0_2.length cz34] 26 (0, 0)) (by (with_reducible repeat (first | refine blk_drewN ?_ _ | refine blk_drew ?_ | refine blk_alloc ?_ _)); exact HX43.out) hb); have n8_ := Aside0.mk (blk_below (g := w5.heap.size) (o := .cells #[.int .i64 r18, .int .i64 r19, .slice Az47 r20.length cz47] 26 (0, 0)) (by (with_reducible repeat (first | refine blk_drewN ?_ _ | refine blk_drew ?_ | refine blk_alloc ?_ _)); exact HX60.out) hb); have n9_ := Aside0.mk (below_step (by repeat (first | (with_reducible first | exact HB.out | apply below_alloc | apply pw_below_drewN | apply below_drew1) | exact HB.out)) hb); have C100 : Aside0 (w7.heap.size ≤ w8.heap.size) := ⟨by have h_ := hb.size; (try simp at h_); omega⟩; have CCn_ := Aside0.mk (And.intro CC.out C100.out); clear CC; have CC := CCn_; clear CCn_; clear HO24; clear HO33; clear HO46; clear HO81; clear HX1; clear HX30; clear HX43; clear HX60; clear HB; clear hl83; clear hx84; clear hx85; clear hx86; clear hl87; clear hx88; clear hx89; clear hx90; clear hl91; clear hx92; clear hx93; clear hx94; clear hl95; clear hx96; clear hx97; clear hx98; have HO24 := n1_; clear n1_; have HO33 := n2_; clear n2_; have HO46 := n3_; clear n3_; have HO81 := n4_; clear n4_; have HX1 := n5_; clear n5_; have HX30 := n6_; clear n6_; have HX43 := n7_; clear n7_; have HX60 := n8_; clear n8_; have HB := n9_; clear n9_; (try clear hb); have hl101 : w.heap.size < w8.heap.size := blk_lt HX1.out; have hx102 : w8.cell? ⟨w.heap.size, 0, none⟩ = some (.int .i64 a0_0) := (blk_cell HX1.out 0).trans rfl; have hx103 : w8.cell? ⟨w.heap.size, 1, none⟩ = some (.int .i64 a0_1) := (blk_cell HX1.out 1).trans rfl; have hx104 : w8.cell? ⟨w.heap.size, 2, none⟩ = some (.slice A0_2 l0_2.length c0_2) := (blk_cell HX1.out 2).trans rfl; have hl105 : w3.heap.size < w8.heap.size := blk_lt HX30.out; have hx106 : w8.cell? ⟨w3.heap.size, 0, none⟩ = some (.int .i64 r18) := (blk_cell HX30.out 0).trans rfl; have hx107 : w8.cell? ⟨w3.heap.size, 1, none⟩ = some (.int .i64 r19) := (blk_cell HX30.out 1).trans rfl; have hx108 : w8.cell? ⟨w3.heap.size, 2, none⟩ = some (.slice Az25 r20.length cz25) := (blk_cell HX30.out 2).trans rfl; have hl109 : w4.heap.size < w8.heap.size := blk_lt HX43.out; have hx110 : w8.cell? ⟨w4.heap.size, 0, none⟩ = some (.int .i64 a0_0) := (blk_cell HX43.out 0).trans rfl; have hx111 : w8.cell? ⟨w4.heap.size, 1, none⟩ = some (.int .i64 a0_1) := (blk_cell HX43.out 1).trans rfl; have hx112 : w8.cell? ⟨w4.heap.size, 2, none⟩ = some (.slice Az34 l0_2.length cz34) := (blk_cell HX43.out 2).trans rfl; have hl113 : w5.heap.size < w8.heap.size := blk_lt HX60.out; have hx114 : w8.cell? ⟨w5.heap.size, 0, none⟩ = some (.int .i64 r18) := (blk_cell HX60.out 0).trans rfl; have hx115 : w8.cell? ⟨w5.heap.size, 1, none⟩ = some (.int .i64 r19) := (blk_cell HX60.out 1).trans rfl; have hx116 : w8.cell? ⟨w5.heap.size, 2, none⟩ = some (.slice Az47 r20.length cz47) := (blk_cell HX60.out 2).trans rfl))
  go_wp2_with (first | ((with_reducible refine gate_callee (f := 17) rfl ?_); refine goesL_ (some 48) rfl rfl Try.func17 (by kernel_rfl) rfl #[.agg #[.int .i64 a0_0, .int .i64 a0_1, .slice Az34 l0_2.length cz34], .int .i64 1] rfl (by (try simp only [List.map_toArray, List.map_cons, List.map_nil]); first | done | rfl | (simp only [List.length_drop, List.length_take]; rfl)) ?_; (with_reducible refine (laws_markMatrix.callsM k a0_0 a0_1 (fun k_ => w3.heap.size + 1 ≤ k_ ∧ k_ < w4.heap.size) (.slice Az34 l0_2.length cz34) l0_2 1 m117 ys118 w _ ?side1 ?side2 A119.out).mono ?_); (case side1 => repeat (first | (with_reducible first | exact HB.out | apply below_alloc | apply pw_below_drewN | apply below_drew1) | exact HB.out)); (case side2 => exact (by (with_reducible repeat (first | apply Kd.S_alloc | apply Kd.S_drewN | apply Kd.S_drew)); exact HO33.out)); rintro e w9 ⟨rfl, hm0_, hbk, hk⟩; refine ⟨_, rfl, ?_⟩; have n1_ := Aside0.mk (Kd.S_kept (by (with_reducible repeat (first | apply Kd.S_alloc | apply Kd.S_drewN | apply Kd.S_drew)); exact HO24.out) hk (fun k_ hk_ hs_ => by have := CC.out; have h1_ := hk_; have h2_ := hs_; omega)); have n2_ := Aside0.mk (Kd.S_kept (by (with_reducible repeat (first | apply Kd.S_alloc | apply Kd.S_drewN | apply Kd.S_drew)); exact HO46.out) hk (fun k_ hk_ hs_ => by have := CC.out; have h1_ := hk_; have h2_ := hs_; omega)); have n3_ := Aside0.mk (blk_kept (g := w.heap.size) (o := .cells #[.int .i64 a0_0, .int .i64 a0_1, .slice A0_2 l0_2.length c0_2] 24 (0, 0)) (by (with_reducible repeat (first | refine blk_drewN ?_ _ | refine blk_drew ?_ | refine blk_alloc ?_ _)); exact HX1.out) hk (fun hs_ => by have := CC.out; have h2_ := hs_; omega)); have n4_ := Aside0.mk (blk_kept (g := w3.heap.size) (o := .cells #[.int .i64 r18, .int .i64 r19, .slice Az25 r20.length cz25] 26 (0, 0)) (by (with_reducible repeat (first | refine blk_drewN ?_ _ | refine blk_drew ?_ | refine blk_alloc ?_ _)); exact HX30.out) hk (fun hs_ => by have := CC.out; have h2_ := hs_; omega)); have n5_ := Aside0.mk (blk_kept (g := w4.heap.size) (o := .cells #[.int .i64 a0_0, .int .i64 a0_1, .slice Az34 l0_2.length cz34] 26 (0, 0)) (by (with_reducible repeat (first | refine blk_drewN ?_ _ | refine blk_drew ?_ | refine blk_alloc ?_ _)); exact HX43.out) hk (fun hs_ => by have := CC.out; have h2_ := hs_; omega)); have n6_ := Aside0.mk (blk_kept (g := w5.heap.size) (o := .cells #[.int .i64 r18, .int .i64 r19, .slice Az47 r20.length cz47] 26 (0, 0)) (by (with_reducible repeat (first | refine blk_drewN ?_ _ | refine blk_drew ?_ | refine blk_alloc ?_ _)); exact HX60.out) hk (fun hs_ => by have := CC.out; have h2_ := hs_; omega)); have n7_ := Aside0.mk (hbk); have C120 : Aside0 (w8.heap.size ≤ w9.heap.size) := ⟨by have h_ := hk.1; (try simp at h_); omega⟩; have CCn_ := Aside0.mk (And.intro CC.out C120.out); clear CC; have CC := CCn_; clear CCn_; clear HO24; clear HO46; clear HX1; clear HX30; clear HX43; clear HX60; clear HB; clear hl101; clear hx102; clear hx103; clear hx104; clear hl105; clear hx106; clear hx107; clear hx108; clear hl109; clear hx110; clear hx111; clear hx112; clear hl113; clear hx114; clear hx115; clear hx116; have HO24 := n1_; clear n1_; have HO46 := n2_; clear n2_; have HX1 := n3_; clear n3_; have HX30 := n4_; clear n4_; have HX43 := n5_; clear n5_; have HX60 := n6_; clear n6_; have HB := n7_; clear n7_; clear HO33; have HO33 := Aside0.mk hm0_; (try clear hk); (try clear hbk); (try clear hm0_); have hl121 : w.heap.size < w9.heap.size := blk_lt HX1.out; have hx122 : w9.cell? ⟨w.heap.size, 0, none⟩ = some (.int .i64 a0_0) := (blk_cell HX1.out 0).trans rfl; have hx123 : w9.cell? ⟨w.heap.size, 1, none⟩ = some (.int .i64 a0_1) := (blk_cell HX1.out 1).trans rfl; have hx124 : w9.cell? ⟨w.heap.size, 2, none⟩ = some (.slice A0_2 l0_2.length c0_2) := (blk_cell HX1.out 2).trans rfl; have hl125 : w3.heap.size < w9.heap.size := blk_lt HX30.out; have hx126 : w9.cell? ⟨w3.heap.size, 0, none⟩ = some (.int .i64 r18) := (blk_cell HX30.out 0).trans rfl; have hx127 : w9.cell? ⟨w3.heap.size, 1, none⟩ = some (.int .i64 r19) := (blk_cell HX30.out 1).trans rfl; have hx128 : w9.cell? ⟨w3.heap.size, 2, none⟩ = some (.slice Az25 r20.length cz25) := (blk_cell HX30.out 2).trans rfl; have hl129 : w4.heap.size < w9.heap.size := blk_lt HX43.out; have hx130 : w9.cell? ⟨w4.heap.size, 0, none⟩ = some (.int .i64 a0_0) := (blk_cell HX43.out 0).trans rfl; have hx131 : w9.cell? ⟨w4.heap.size, 1, none⟩ = some (.int .i64 a0_1) := (blk_cell HX43.out 1).trans rfl; have hx132 : w9.cell? ⟨w4.heap.size, 2, none⟩ = some (.slice Az34 l0_2.length cz34) := (blk_cell HX43.out 2).trans rfl; have hl133 : w5.heap.size < w9.heap.size := blk_lt HX60.out; have hx134 : w9.cell? ⟨w5.heap.size, 0, none⟩ = some (.int .i64 r18) := (blk_cell HX60.out 0).trans rfl; have hx135 : w9.cell? ⟨w5.heap.size, 1, none⟩ = some (.int .i64 r19) := (blk_cell HX60.out 1).trans rfl; have hx136 : w9.cell? ⟨w5.heap.size, 2, none⟩ = some (.slice Az47 r20.length cz47) := (blk_cell HX60.out 2).trans rfl) | (go_at_call 16; (with_reducible refine (laws_eqMatrix.calls k r18 r19 _ _ r20 r18 r19 _ _ r20 true _ ?side1 ?side2 ?side3 ?side4 A138.out).mono ?_); (case side1 => exact (Kd.S_reads' (n := r20.length) (A := Az47) (c := cz47) (by (with_reducible repeat (first | apply Kd.S_alloc | apply Kd.S_drewN | apply Kd.S_drew)); exact HO46.out)).2.2); (case side2 => exact (Kd.S_reads' (n := r20.length) (A := Az47) (c := cz47) HO46.out).2.1); (case side3 => exact (Kd.S_reads' (n := r20.length) (A := Az25) (c := cz25) (by (with_reducible repeat (first | apply Kd.S_alloc | apply Kd.S_drewN | apply Kd.S_drew)); exact HO24.out)).2.2); (case side4 => exact (Kd.S_reads' (n := r20.length) (A := Az25) (c := cz25) HO24.out).2.1); rintro e w10 ⟨rfl, hb⟩; have n1_ := Aside0.mk (Kd.S_below (by (with_reducible repeat (first | apply Kd.S_alloc | apply Kd.S_drewN | apply Kd.S_drew)); exact HO24.out) hb); have n2_ := Aside0.mk (Kd.S_below (by (with_reducible repeat (first | apply Kd.S_alloc | apply Kd.S_drewN | apply Kd.S_drew)); exact HO33.out) hb); have n3_ := Aside0.mk (Kd.S_below (by (with_reducible repeat (first | apply Kd.S_alloc | apply Kd.S_drewN | apply Kd.S_drew)); exact HO46.out) hb); have n4_ := Aside0.mk (blk_below (g := w.heap.size) (o := .cells #[.int .i64 a0_0, .int .i64 a0_1, .slice A0_2 l0_2.length c0_2] 24 (0, 0)) (by (with_reducible repeat (first | refine blk_drewN ?_ _ | refine blk_drew ?_ | refine blk_alloc ?_ _)); exact HX1.out) hb); have n5_ := Aside0.mk (blk_below (g := w3.heap.size) (o := .cells #[.int .i64 r18, .int .i64 r19, .slice Az25 r20.length cz25] 26 (0, 0)) (by (with_reducible repeat (first | refine blk_drewN ?_ _ | refine blk_drew ?_ | refine blk_alloc ?_ _)); exact HX30.out) hb); have n6_ := Aside0.mk (blk_below (g := w4.heap.size) (o := .cells #[.int .i64 a0_0, .int .i64 a0_1, .slice Az34 l0_2.length cz34] 26 (0, 0)) (by (with_reducible repeat (first | refine blk_drewN ?_ _ | refine blk_drew ?_ | refine blk_alloc ?_ _)); exact HX43.out) hb); have n7_ := Aside0.mk (blk_below (g := w5.heap.size) (o := .cells #[.int .i64 r18, .int .i64 r19, .slice Az47 r20.length cz47] 26 (0, 0)) (by (with_reducible repeat (first | refine blk_drewN ?_ _ | refine blk_drew ?_ | refine blk_alloc ?_ _)); exact HX60.out) hb); have n8_ := Aside0.mk (below_step (by repeat (first | (with_reducible first | exact HB.out | apply below_alloc | apply pw_below_drewN | apply below_drew1) | exact HB.out)) hb); have C139 : Aside0 (w9.heap.size ≤ w10.heap.size) := ⟨by have h_ := hb.size; (try simp at h_); omega⟩; have CCn_ := Aside0.mk (And.intro CC.out C139.out); clear CC; have CC := CCn_; clear CCn_; clear HO24; clear HO33; clear HO46; clear HX1; clear HX30; clear HX43; clear HX60; clear HB; clear hl121; clear hx122; clear hx123; clear hx124; clear hl125; clear hx126; clear hx127; clear hx128; clear hl129; clear hx130; clear hx131; clear hx132; clear hl133; clear hx134; clear hx135; clear hx136; have HO24 := n1_; clear n1_; have HO33 := n2_; clear n2_; have HO46 := n3_; clear n3_; have HX1 := n4_; clear n4_; have HX30 := n5_; clear n5_; have HX43 := n6_; clear n6_; have HX60 := n7_; clear n7_; have HB := n8_; clear n8_; (try clear hb); have hl140 : w.heap.size < w10.heap.size := blk_lt HX1.out; have hx141 : w10.cell? ⟨w.heap.size, 0, none⟩ = some (.int .i64 a0_0) := (blk_cell HX1.out 0).trans rfl; have hx142 : w10.cell? ⟨w.heap.size, 1, none⟩ = some (.int .i64 a0_1) := (blk_cell HX1.out 1).trans rfl; have hx143 : w10.cell? ⟨w.heap.size, 2, none⟩ = some (.slice A0_2 l0_2.length c0_2) := (blk_cell HX1.out 2).trans rfl; have hl144 : w3.heap.size < w10.heap.size := blk_lt HX30.out; have hx145 : w10.cell? ⟨w3.heap.size, 0, none⟩ = some (.int .i64 r18) := (blk_cell HX30.out 0).trans rfl; have hx146 : w10.cell? ⟨w3.heap.size, 1, none⟩ = some (.int .i64 r19) := (blk_cell HX30.out 1).trans rfl; have hx147 : w10.cell? ⟨w3.heap.size, 2, none⟩ = some (.slice Az25 r20.length cz25) := (blk_cell HX30.out 2).trans rfl; have hl148 : w4.heap.size < w10.heap.size := blk_lt HX43.out; have hx149 : w10.cell? ⟨w4.heap.size, 0, none⟩ = some (.int .i64 a0_0) := (blk_cell HX43.out 0).trans rfl; have hx150 : w10.cell? ⟨w4.heap.size, 1, none⟩ = some (.int .i64 a0_1) := (blk_cell HX43.out 1).trans rfl; have hx151 : w10.cell? ⟨w4.heap.size, 2, none⟩ = some (.slice Az34 l0_2.length cz34) := (blk_cell HX43.out 2).trans rfl; have hl152 : w5.heap.size < w10.heap.size := blk_lt HX60.out; have hx153 : w10.cell? ⟨w5.heap.size, 0, none⟩ = some (.int .i64 r18) := (blk_cell HX60.out 0).trans rfl; have hx154 : w10.cell? ⟨w5.heap.size, 1, none⟩ = some (.int .i64 r19) := (blk_cell HX60.out 1).trans rfl; have hx155 : w10.cell? ⟨w5.heap.size, 2, none⟩ = some (.slice Az47 r20.length cz47) := (blk_cell HX60.out 2).trans rfl) | ((with_reducible refine gate_callee (f := 17) rfl ?_); refine goesL_ (some 64) rfl rfl Try.func17 (by kernel_rfl) rfl #[.agg #[.int .i64 r18, .int .i64 r19, .slice Az47 r20.length cz47], .int .i64 1] rfl (by (try simp only [List.map_toArray, List.map_cons, List.map_nil]); first | done | rfl | (simp only [List.length_drop, List.length_take]; rfl)) ?_; (with_reducible refine (laws_markMatrix.callsM k r18 r19 (fun k_ => w4.heap.size + 1 ≤ k_ ∧ k_ < w5.heap.size) (.slice Az47 r20.length cz47) r20 1 m156 ys157 w _ ?side1 ?side2 A158.out).mono ?_); (case side1 => repeat (first | (with_reducible first | exact HB.out | apply below_alloc | apply pw_below_drewN | apply below_drew1) | exact HB.out)); (case side2 => exact (by (with_reducible repeat (first | apply Kd.S_alloc | apply Kd.S_drewN | apply Kd.S_drew)); exact HO46.out)); rintro e w11 ⟨rfl, hm0_, hbk, hk⟩; refine ⟨_, rfl, ?_⟩; have n1_ := Aside0.mk (Kd.S_kept (by (with_reducible repeat (first | apply Kd.S_alloc | apply Kd.S_drewN | apply Kd.S_drew)); exact HO24.out) hk (fun k_ hk_ hs_ => by have := CC.out; have h1_ := hk_; have h2_ := hs_; omega)); have n2_ := Aside0.mk (Kd.S_kept (by (with_reducible repeat (first | apply Kd.S_alloc | apply Kd.S_drewN | apply Kd.S_drew)); exact HO33.out) hk (fun k_ hk_ hs_ => by have := CC.out; have h1_ := hk_; have h2_ := hs_; omega)); have n3_ := Aside0.mk (blk_kept (g := w.heap.size) (o := .cells #[.int .i64 a0_0, .int .i64 a0_1, .slice A0_2 l0_2.length c0_2] 24 (0, 0)) (by (with_reducible repeat (first | refine blk_drewN ?_ _ | refine blk_drew ?_ | refine blk_alloc ?_ _)); exact HX1.out) hk (fun hs_ => by have := CC.out; have h2_ := hs_; omega)); have n4_ := Aside0.mk (blk_kept (g := w3.heap.size) (o := .cells #[.int .i64 r18, .int .i64 r19, .slice Az25 r20.length cz25] 26 (0, 0)) (by (with_reducible repeat (first | refine blk_drewN ?_ _ | refine blk_drew ?_ | refine blk_alloc ?_ _)); exact HX30.out) hk (fun hs_ => by have := CC.out; have h2_ := hs_; omega)); have n5_ := Aside0.mk (blk_kept (g := w4.heap.size) (o := .cells #[.int .i64 a0_0, .int .i64 a0_1, .slice Az34 l0_2.length cz34] 26 (0, 0)) (by (with_reducible repeat (first | refine blk_drewN ?_ _ | refine blk_drew ?_ | refine blk_alloc ?_ _)); exact HX43.out) hk (fun hs_ => by have := CC.out; have h2_ := hs_; omega)); have n6_ := Aside0.mk (blk_kept (g := w5.heap.size) (o := .cells #[.int .i64 r18, .int .i64 r19, .slice Az47 r20.length cz47] 26 (0, 0)) (by (with_reducible repeat (first | refine blk_drewN ?_ _ | refine blk_drew ?_ | refine blk_alloc ?_ _)); exact HX60.out) hk (fun hs_ => by have := CC.out; have h2_ := hs_; omega)); have n7_ := Aside0.mk (hbk); have C159 : Aside0 (w10.heap.size ≤ w11.heap.size) := ⟨by have h_ := hk.1; (try simp at h_); omega⟩; have CCn_ := Aside0.mk (And.intro CC.out C159.out); clear CC; have CC := CCn_; clear CCn_; clear HO24; clear HO33; clear HX1; clear HX30; clear HX43; clear HX60; clear HB; clear hl140; clear hx141; clear hx142; clear hx143; clear hl144; clear hx145; clear hx146; clear hx147; clear hl148; clear hx149; clear hx150; clear hx151; clear hl152; clear hx153; clear hx154; clear hx155; have HO24 := n1_; clear n1_; have HO33 := n2_; clear n2_; have HX1 := n3_; clear n3_; have HX30 := n4_; clear n4_; have HX43 := n5_; clear n5_; have HX60 := n6_; clear n6_; have HB := n7_; clear n7_; clear HO46; have HO46 := Aside0.mk hm0_; (try clear hk); (try clear hbk); (try clear hm0_); have hl160 : w.heap.size < w11.heap.size := blk_lt HX1.out; have hx161 : w11.cell? ⟨w.heap.size, 0, none⟩ = some (.int .i64 a0_0) := (blk_cell HX1.out 0).trans rfl; have hx162 : w11.cell? ⟨w.heap.size, 1, none⟩ = some (.int .i64 a0_1) := (blk_cell HX1.out 1).trans rfl; have hx163 : w11.cell? ⟨w.heap.size, 2, none⟩ = some (.slice A0_2 l0_2.length c0_2) := (blk_cell HX1.out 2).trans rfl; have hl164 : w3.heap.size < w11.heap.size := blk_lt HX30.out; have hx165 : w11.cell? ⟨w3.heap.size, 0, none⟩ = some (.int .i64 r18) := (blk_cell HX30.out 0).trans rfl; have hx166 : w11.cell? ⟨w3.heap.size, 1, none⟩ = some (.int .i64 r19) := (blk_cell HX30.out 1).trans rfl; have hx167 : w11.cell? ⟨w3.heap.size, 2, none⟩ = some (.slice Az25 r20.length cz25) := (blk_cell HX30.out 2).trans rfl; have hl168 : w4.heap.size < w11.heap.size := blk_lt HX43.out; have hx169 : w11.cell? ⟨w4.heap.size, 0, none⟩ = some (.int .i64 a0_0) := (blk_cell HX43.out 0).trans rfl; have hx170 : w11.cell? ⟨w4.heap.size, 1, none⟩ = some (.int .i64 a0_1) := (blk_cell HX43.out 1).trans rfl; have hx171 : w11.cell? ⟨w4.heap.size, 2, none⟩ = some (.slice Az34 l0_2.length cz34) := (blk_cell HX43.out 2).trans rfl; have hl172 : w5.heap.size < w11.heap.size := blk_lt HX60.out; have hx173 : w11.cell? ⟨w5.heap.size, 0, none⟩ = some (.int .i64 r18) := (blk_cell HX60.out 0).trans rfl; have hx174 : w11.cell? ⟨w5.heap.size, 1, none⟩ = some (.int .i64 r19) := (blk_cell HX60.out 1).trans rfl; have hx175 : w11.cell? ⟨w5.heap.size, 2, none⟩ = some (.slice Az47 r20.length cz47) := (blk_cell HX60.out 2).trans rfl) | ((with_reducible refine gate_callee (f := 18) rfl ?_); refine goesL_ (some 67) rfl rfl Try.func18 (by kernel_rfl) rfl #[.agg #[.int .i64 r18, .int .i64 r19, .slice Az47 r20.length cz47], .int .i64 1] rfl (by (try simp only [List.map_toArray, List.map_cons, List.map_nil]); first | done | rfl | (simp only [List.length_drop, List.length_take]; rfl)) ?_; (with_reducible refine (calls_as ?eq_ (laws_heldMatrix.calls k r18 r19 Az47 cz47 ys157 1 m156 _ ?side1 ?side2 A176.out)).mono ?_); (case eq_ => rw [show ys157.length = r20.length from (Kd.S_reads' HO46.out).1.symm]); (case side1 => exact (Kd.S_reads' (n := r20.length) (A := Az47) (c := cz47) (by (with_reducible repeat (first | apply Kd.S_alloc | apply Kd.S_drewN | apply Kd.S_drew)); exact HO46.out)).2.2); (case side2 => exact Nat.le_trans (Nat.le_of_eq (Kd.S_reads' HO46.out).1.symm) (Kd.S_reads' HO46.out).2.1); rintro e w12 ⟨rfl, hb⟩; refine ⟨_, rfl, ?_⟩; have n1_ := Aside0.mk (Kd.S_below (by (with_reducible repeat (first | apply Kd.S_alloc | apply Kd.S_drewN | apply Kd.S_drew)); exact HO24.out) hb); have n2_ := Aside0.mk (Kd.S_below (by (with_reducible repeat (first | apply Kd.S_alloc | apply Kd.S_drewN | apply Kd.S_drew)); exact HO33.out) hb); have n3_ := Aside0.mk (Kd.S_below (by (with_reducible repeat (first | apply Kd.S_alloc | apply Kd.S_drewN | apply Kd.S_drew)); exact HO46.out) hb); have n4_ := Aside0.mk (blk_below (g := w.heap.size) (o := .cells #[.int .i64 a0_0, .int .i64 a0_1, .slice A0_2 l0_2.length c0_2] 24 (0, 0)) (by (with_reducible repeat (first | refine blk_drewN ?_ _ | refine blk_drew ?_ | refine blk_alloc ?_ _)); exact HX1.out) hb); have n5_ := Aside0.mk (blk_below (g := w3.heap.size) (o := .cells #[.int .i64 r18, .int .i64 r19, .slice Az25 r20.length cz25] 26 (0, 0)) (by (with_reducible repeat (first | refine blk_drewN ?_ _ | refine blk_drew ?_ | refine blk_alloc ?_ _)); exact HX30.out) hb); have n6_ := Aside0.mk (blk_below (g := w4.heap.size) (o := .cells #[.int .i64 a0_0, .int .i64 a0_1, .slice Az34 l0_2.length cz34] 26 (0, 0)) (by (with_reducible repeat (first | refine blk_drewN ?_ _ | refine blk_drew ?_ | refine blk_alloc ?_ _)); exact HX43.out) hb); have n7_ := Aside0.mk (blk_below (g := w5.heap.size) (o := .cells #[.int .i64 r18, .int .i64 r19, .slice Az47 r20.length cz47] 26 (0, 0)) (by (with_reducible repeat (first | refine blk_drewN ?_ _ | refine blk_drew ?_ | refine blk_alloc ?_ _)); exact HX60.out) hb); have n8_ := Aside0.mk (below_step (by repeat (first | (with_reducible first | exact HB.out | apply below_alloc | apply pw_below_drewN | apply below_drew1) | exact HB.out)) hb); have C177 : Aside0 (w11.heap.size ≤ w12.heap.size) := ⟨by have h_ := hb.size; (try simp at h_); omega⟩; have CCn_ := Aside0.mk (And.intro CC.out C177.out); clear CC; have CC := CCn_; clear CCn_; clear HO24; clear HO33; clear HO46; clear HX1; clear HX30; clear HX43; clear HX60; clear HB; clear hl160; clear hx161; clear hx162; clear hx163; clear hl164; clear hx165; clear hx166; clear hx167; clear hl168; clear hx169; clear hx170; clear hx171; clear hl172; clear hx173; clear hx174; clear hx175; have HO24 := n1_; clear n1_; have HO33 := n2_; clear n2_; have HO46 := n3_; clear n3_; have HX1 := n4_; clear n4_; have HX30 := n5_; clear n5_; have HX43 := n6_; clear n6_; have HX60 := n7_; clear n7_; have HB := n8_; clear n8_; (try clear hb); have hl178 : w.heap.size < w12.heap.size := blk_lt HX1.out; have hx179 : w12.cell? ⟨w.heap.size, 0, none⟩ = some (.int .i64 a0_0) := (blk_cell HX1.out 0).trans rfl; have hx180 : w12.cell? ⟨w.heap.size, 1, none⟩ = some (.int .i64 a0_1) := (blk_cell HX1.out 1).trans rfl; have hx181 : w12.cell? ⟨w.heap.size, 2, none⟩ = some (.slice A0_2 l0_2.length c0_2) := (blk_cell HX1.out 2).trans rfl; have hl182 : w3.heap.size < w12.heap.size := blk_lt HX30.out; have hx183 : w12.cell? ⟨w3.heap.size, 0, none⟩ = some (.int .i64 r18) := (blk_cell HX30.out 0).trans rfl; have hx184 : w12.cell? ⟨w3.heap.size, 1, none⟩ = some (.int .i64 r19) := (blk_cell HX30.out 1).trans rfl; have hx185 : w12.cell? ⟨w3.heap.size, 2, none⟩ = some (.slice Az25 r20.length cz25) := (blk_cell HX30.out 2).trans rfl; have hl186 : w4.heap.size < w12.heap.size := blk_lt HX43.out; have hx187 : w12.cell? ⟨w4.heap.size, 0, none⟩ = some (.int .i64 a0_0) := (blk_cell HX43.out 0).trans rfl; have hx188 : w12.cell? ⟨w4.heap.size, 1, none⟩ = some (.int .i64 a0_1) := (blk_cell HX43.out 1).trans rfl; have hx189 : w12.cell? ⟨w4.heap.size, 2, none⟩ = some (.slice Az34 l0_2.length cz34) := (blk_cell HX43.out 2).trans rfl; have hl190 : w5.heap.size < w12.heap.size := blk_lt HX60.out; have hx191 : w12.cell? ⟨w5.heap.size, 0, none⟩ = some (.int .i64 r18) := (blk_cell HX60.out 0).trans rfl; have hx192 : w12.cell? ⟨w5.heap.size, 1, none⟩ = some (.int .i64 r19) := (blk_cell HX60.out 1).trans rfl; have hx193 : w12.cell? ⟨w5.heap.size, 2, none⟩ = some (.slice Az47 r20.length cz47) := (blk_cell HX60.out 2).trans rfl) | ((with_reducible refine gate_callee (f := 14) rfl ?_); refine goesL_ (some 75) rfl rfl Try.func14 (by kernel_rfl) rfl #[.agg #[.int .i64 a0_0, .int .i64 a0_1, .slice A0_2 l0_2.length c0_2]] rfl (by (try simp only [List.map_toArray, List.map_cons, List.map_nil]); first | done | rfl | (simp only [List.length_drop, List.length_take]; rfl)) ?_; (with_reducible refine (laws_toMatrix.calls k a0_0 a0_1 _ _ l0_2 a0_0 a0_1 l0_2 _ ?side1 ?side2 A195.out).mono ?_); (case side1 => exact Kd.C_below HR0_2.out (by repeat (first | (with_reducible first | exact HB.out | apply below_alloc | apply pw_below_drewN | apply below_drew1) | exact HB.out))); (case side2 => exact HC0_2.out); rintro e w13 ⟨v100_, rfl, ho0_, hb⟩; refine ⟨_, rfl, ?_⟩; have n1_ := Aside0.mk (Kd.S_below (by (with_reducible repeat (first | apply Kd.S_alloc | apply Kd.S_drewN | apply Kd.S_drew)); exact HO24.out) hb); have n2_ := Aside0.mk (Kd.S_below (by (with_reducible repeat (first | apply Kd.S_alloc | apply Kd.S_drewN | apply Kd.S_drew)); exact HO33.out) hb); have n3_ := Aside0.mk (Kd.S_below (by (with_reducible repeat (first | apply Kd.S_alloc | apply Kd.S_drewN | apply Kd.S_drew)); exact HO46.out) hb); have n4_ := Aside0.mk (blk_below (g := w.heap.size) (o := .cells #[.int .i64 a0_0, .int .i64 a0_1, .slice A0_2 l0_2.length c0_2] 24 (0, 0)) (by (with_reducible repeat (first | refine blk_drewN ?_ _ | refine blk_drew ?_ | refine blk_alloc ?_ _)); exact HX1.out) hb); have n5_ := Aside0.mk (blk_below (g := w3.heap.size) (o := .cells #[.int .i64 r18, .int .i64 r19, .slice Az25 r20.length cz25] 26 (0, 0)) (by (with_reducible repeat (first | refine blk_drewN ?_ _ | refine blk_drew ?_ | refine blk_alloc ?_ _)); exact HX30.out) hb); have n6_ := Aside0.mk (blk_below (g := w4.heap.size) (o := .cells #[.int .i64 a0_0, .int .i64 a0_1, .slice Az34 l0_2.length cz34] 26 (0, 0)) (by (with_reducible repeat (first | refine blk_drewN ?_ _ | refine blk_drew ?_ | refine blk_alloc ?_ _)); exact HX43.out) hb); have n7_ := Aside0.mk (blk_below (g := w5.heap.size) (o := .cells #[.int .i64 r18, .int .i64 r19, .slice Az47 r20.length cz47] 26 (0, 0)) (by (with_reducible repeat (first | refine blk_drewN ?_ _ | refine blk_drew ?_ | refine blk_alloc ?_ _)); exact HX60.out) hb); have n8_ := Aside0.mk (below_step (by repeat (first | (with_reducible first | exact HB.out | apply below_alloc | apply pw_below_drewN | apply below_drew1) | exact HB.out)) hb); have C196 : Aside0 (w12.heap.size ≤ w13.heap.size) := ⟨by have h_ := hb.size; (try simp at h_); omega⟩; have CCn_ := Aside0.mk (And.intro CC.out C196.out); clear CC; have CC := CCn_; clear CCn_; clear HO24; clear HO33; clear HO46; clear HX1; clear HX30; clear HX43; clear HX60; clear HB; clear hl178; clear hx179; clear hx180; clear hx181; clear hl182; clear hx183; clear hx184; clear hx185; clear hl186; clear hx187; clear hx188; clear hx189; clear hl190; clear hx191; clear hx192; clear hx193; have HO24 := n1_; clear n1_; have HO33 := n2_; clear n2_; have HO46 := n3_; clear n3_; have HX1 := n4_; clear n4_; have HX30 := n5_; clear n5_; have HX43 := n6_; clear n6_; have HX60 := n7_; clear n7_; have HB := n8_; clear n8_; have HO197 := Aside0.mk (Kd.S_lower (base' := w.heap.size) (Kd.S_mono (Kd.S_bound ho0_) (ok' := fun k_ => w12.heap.size ≤ k_ ∧ k_ < w13.heap.size) (fun k_ hk_ => ⟨by have h_ := hk_.2.1; (try simp at h_); omega, hk_.2.2.1⟩)) (by have := CC.out; first | omega | (simp; done) | (simp; omega))); obtain ⟨Az198, cz198, ez198⟩ := Kd.S_slice HO197.out; subst ez198; (try clear hb); (try clear ho0_); have hl199 : w.heap.size < w13.heap.size := blk_lt HX1.out; have hx200 : w13.cell? ⟨w.heap.size, 0, none⟩ = some (.int .i64 a0_0) := (blk_cell HX1.out 0).trans rfl; have hx201 : w13.cell? ⟨w.heap.size, 1, none⟩ = some (.int .i64 a0_1) := (blk_cell HX1.out 1).trans rfl; have hx202 : w13.cell? ⟨w.heap.size, 2, none⟩ = some (.slice A0_2 l0_2.length c0_2) := (blk_cell HX1.out 2).trans rfl; have hl203 : w3.heap.size < w13.heap.size := blk_lt HX30.out; have hx204 : w13.cell? ⟨w3.heap.size, 0, none⟩ = some (.int .i64 r18) := (blk_cell HX30.out 0).trans rfl; have hx205 : w13.cell? ⟨w3.heap.size, 1, none⟩ = some (.int .i64 r19) := (blk_cell HX30.out 1).trans rfl; have hx206 : w13.cell? ⟨w3.heap.size, 2, none⟩ = some (.slice Az25 r20.length cz25) := (blk_cell HX30.out 2).trans rfl; have hl207 : w4.heap.size < w13.heap.size := blk_lt HX43.out; have hx208 : w13.cell? ⟨w4.heap.size, 0, none⟩ = some (.int .i64 a0_0) := (blk_cell HX43.out 0).trans rfl; have hx209 : w13.cell? ⟨w4.heap.size, 1, none⟩ = some (.int .i64 a0_1) := (blk_cell HX43.out 1).trans rfl; have hx210 : w13.cell? ⟨w4.heap.size, 2, none⟩ = some (.slice Az34 l0_2.length cz34) := (blk_cell HX43.out 2).trans rfl; have hl211 : w5.heap.size < w13.heap.size := blk_lt HX60.out; have hx212 : w13.cell? ⟨w5.heap.size, 0, none⟩ = some (.int .i64 r18) := (blk_cell HX60.out 0).trans rfl; have hx213 : w13.cell? ⟨w5.heap.size, 1, none⟩ = some (.int .i64 r19) := (blk_cell HX60.out 1).trans rfl; have hx214 : w13.cell? ⟨w5.heap.size, 2, none⟩ = some (.slice Az47 r20.length cz47) := (blk_cell HX60.out 2).trans rfl) | ((with_reducible refine gate_callee (f := 20) rfl ?_); refine goesL_ (some 76) rfl rfl Try.func20 (by kernel_rfl) rfl #[.agg #[.int .i64 a0_0, .int .i64 a0_1, .slice Az198 l0_2.length cz198]] rfl (by (try simp only [List.map_toArray, List.map_cons, List.map_nil]); first | done | rfl | (simp only [List.length_drop, List.length_take]; rfl)) ?_; (with_reducible refine (impl_KernelOf.calls k a0_0 a0_1 _ _ l0_2 r18 r19 r20 r21 _ ?side1 ?side2 A215.out).mono ?_); (case side1 => exact (Kd.S_reads' (n := l0_2.length) (A := Az198) (c := cz198) (by (with_reducible repeat (first | apply Kd.S_alloc | apply Kd.S_drewN | apply Kd.S_drew)); exact HO197.out)).2.2); (case side2 => exact (Kd.S_reads' (n := l0_2.length) (A := Az198) (c := cz198) HO197.out).2.1); rintro e w14 ⟨v100_, rfl, ho0_, hb⟩; refine ⟨_, rfl, ?_⟩; have n1_ := Aside0.mk (Kd.S_below (by (with_reducible repeat (first | apply Kd.S_alloc | apply Kd.S_drewN | apply Kd.S_drew)); exact HO24.out) hb); have n2_ := Aside0.mk (Kd.S_below (by (with_reducible repeat (first | apply Kd.S_alloc | apply Kd.S_drewN | apply Kd.S_drew)); exact HO33.out) hb); have n3_ := Aside0.mk (Kd.S_below (by (with_reducible repeat (first | apply Kd.S_alloc | apply Kd.S_drewN | apply Kd.S_drew)); exact HO46.out) hb); have n4_ := Aside0.mk (Kd.S_below (by (with_reducible repeat (first | apply Kd.S_alloc | apply Kd.S_drewN | apply Kd.S_drew)); exact HO197.out) hb); have n5_ := Aside0.mk (blk_below (g := w.heap.size) (o := .cells #[.int .i64 a0_0, .int .i64 a0_1, .slice A0_2 l0_2.length c0_2] 24 (0, 0)) (by (with_reducible repeat (first | refine blk_drewN ?_ _ | refine blk_drew ?_ | refine blk_alloc ?_ _)); exact HX1.out) hb); have n6_ := Aside0.mk (blk_below (g := w3.heap.size) (o := .cells #[.int .i64 r18, .int .i64 r19, .slice Az25 r20.length cz25] 26 (0, 0)) (by (with_reducible repeat (first | refine blk_drewN ?_ _ | refine blk_drew ?_ | refine blk_alloc ?_ _)); exact HX30.out) hb); have n7_ := Aside0.mk (blk_below (g := w4.heap.size) (o := .cells #[.int .i64 a0_0, .int .i64 a0_1, .slice Az34 l0_2.length cz34] 26 (0, 0)) (by (with_reducible repeat (first | refine blk_drewN ?_ _ | refine blk_drew ?_ | refine blk_alloc ?_ _)); exact HX43.out) hb); have n8_ := Aside0.mk (blk_below (g := w5.heap.size) (o := .cells #[.int .i64 r18, .int .i64 r19, .slice Az47 r20.length cz47] 26 (0, 0)) (by (with_reducible repeat (first | refine blk_drewN ?_ _ | refine blk_drew ?_ | refine blk_alloc ?_ _)); exact HX60.out) hb); have n9_ := Aside0.mk (below_step (by repeat (first | (with_reducible first | exact HB.out | apply below_alloc | apply pw_below_drewN | apply below_drew1) | exact HB.out)) hb); have C216 : Aside0 (w13.heap.size ≤ w14.heap.size) := ⟨by have h_ := hb.size; (try simp at h_); omega⟩; have CCn_ := Aside0.mk (And.intro CC.out C216.out); clear CC; have CC := CCn_; clear CCn_; clear HO24; clear HO33; clear HO46; clear HO197; clear HX1; clear HX30; clear HX43; clear HX60; clear HB; clear hl199; clear hx200; clear hx201; clear hx202; clear hl203; clear hx204; clear hx205; clear hx206; clear hl207; clear hx208; clear hx209; clear hx210; clear hl211; clear hx212; clear hx213; clear hx214; have HO24 := n1_; clear n1_; have HO33 := n2_; clear n2_; have HO46 := n3_; clear n3_; have HO197 := n4_; clear n4_; have HX1 := n5_; clear n5_; have HX30 := n6_; clear n6_; have HX43 := n7_; clear n7_; have HX60 := n8_; clear n8_; have HB := n9_; clear n9_; have HO217 := Aside0.mk (Kd.S_lower (base' := w.heap.size) (Kd.S_mono (Kd.S_bound ho0_) (ok' := fun k_ => w13.heap.size ≤ k_ ∧ k_ < w14.heap.size) (fun k_ hk_ => ⟨by have h_ := hk_.2.1; (try simp at h_); omega, hk_.2.2.1⟩)) (by have := CC.out; first | omega | (simp; done) | (simp; omega))); obtain ⟨Az218, cz218, ez218⟩ := Kd.S_slice HO217.out; subst ez218; (try clear hb); (try clear ho0_); have hl219 : w.heap.size < w14.heap.size := blk_lt HX1.out; have hx220 : w14.cell? ⟨w.heap.size, 0, none⟩ = some (.int .i64 a0_0) := (blk_cell HX1.out 0).trans rfl; have hx221 : w14.cell? ⟨w.heap.size, 1, none⟩ = some (.int .i64 a0_1) := (blk_cell HX1.out 1).trans rfl; have hx222 : w14.cell? ⟨w.heap.size, 2, none⟩ = some (.slice A0_2 l0_2.length c0_2) := (blk_cell HX1.out 2).trans rfl; have hl223 : w3.heap.size < w14.heap.size := blk_lt HX30.out; have hx224 : w14.cell? ⟨w3.heap.size, 0, none⟩ = some (.int .i64 r18) := (blk_cell HX30.out 0).trans rfl; have hx225 : w14.cell? ⟨w3.heap.size, 1, none⟩ = some (.int .i64 r19) := (blk_cell HX30.out 1).trans rfl; have hx226 : w14.cell? ⟨w3.heap.size, 2, none⟩ = some (.slice Az25 r20.length cz25) := (blk_cell HX30.out 2).trans rfl; have hl227 : w4.heap.size < w14.heap.size := blk_lt HX43.out; have hx228 : w14.cell? ⟨w4.heap.size, 0, none⟩ = some (.int .i64 a0_0) := (blk_cell HX43.out 0).trans rfl; have hx229 : w14.cell? ⟨w4.heap.size, 1, none⟩ = some (.int .i64 a0_1) := (blk_cell HX43.out 1).trans rfl; have hx230 : w14.cell? ⟨w4.heap.size, 2, none⟩ = some (.slice Az34 l0_2.length cz34) := (blk_cell HX43.out 2).trans rfl; have hl231 : w5.heap.size < w14.heap.size := blk_lt HX60.out; have hx232 : w14.cell? ⟨w5.heap.size, 0, none⟩ = some (.int .i64 r18) := (blk_cell HX60.out 0).trans rfl; have hx233 : w14.cell? ⟨w5.heap.size, 1, none⟩ = some (.int .i64 r19) := (blk_cell HX60.out 1).trans rfl; have hx234 : w14.cell? ⟨w5.heap.size, 2, none⟩ = some (.slice Az47 r20.length cz47) := (blk_cell HX60.out 2).trans rfl) | ((with_reducible refine gate_callee (f := 16) rfl ?_); refine goesL_ (some 81) rfl rfl Try.func16 (by kernel_rfl) rfl #[.agg #[.int .i64 r18, .int .i64 r19, .slice Az218 r20.length cz218], .agg #[.int .i64 r18, .int .i64 r19, .slice Az25 r20.length cz25]] rfl (by (try simp only [List.map_toArray, List.map_cons, List.map_nil]); first | done | rfl | (simp only [List.length_drop, List.length_take]; rfl)) ?_; (with_reducible refine (laws_eqMatrix.calls k r18 r19 _ _ r20 r18 r19 _ _ r20 true _ ?side1 ?side2 ?side3 ?side4 A236.out).mono ?_); (case side1 => exact (Kd.S_reads' (n := r20.length) (A := Az218) (c := cz218) (by (with_reducible repeat (first | apply Kd.S_alloc | apply Kd.S_drewN | apply Kd.S_drew)); exact HO217.out)).2.2); (case side2 => exact (Kd.S_reads' (n := r20.length) (A := Az218) (c := cz218) HO217.out).2.1); (case side3 => exact (Kd.S_reads' (n := r20.length) (A := Az25) (c := cz25) (by (with_reducible repeat (first | apply Kd.S_alloc | apply Kd.S_drewN | apply Kd.S_drew)); exact HO24.out)).2.2); (case side4 => exact (Kd.S_reads' (n := r20.length) (A := Az25) (c := cz25) HO24.out).2.1); rintro e w15 ⟨rfl, hb⟩; refine ⟨_, rfl, ?_⟩; have n1_ := Aside0.mk (Kd.S_below (by (with_reducible repeat (first | apply Kd.S_alloc | apply Kd.S_drewN | apply Kd.S_drew)); exact HO24.out) hb); have n2_ := Aside0.mk (Kd.S_below (by (with_reducible repeat (first | apply Kd.S_alloc | apply Kd.S_drewN | apply Kd.S_drew)); exact HO33.out) hb); have n3_ := Aside0.mk (Kd.S_below (by (with_reducible repeat (first | apply Kd.S_alloc | apply Kd.S_drewN | apply Kd.S_drew)); exact HO46.out) hb); have n4_ := Aside0.mk (Kd.S_below (by (with_reducible repeat (first | apply Kd.S_alloc | apply Kd.S_drewN | apply Kd.S_drew)); exact HO217.out) hb); have n5_ := Aside0.mk (blk_below (g := w.heap.size) (o := .cells #[.int .i64 a0_0, .int .i64 a0_1, .slice A0_2 l0_2.length c0_2] 24 (0, 0)) (by (with_reducible repeat (first | refine blk_drewN ?_ _ | refine blk_drew ?_ | refine blk_alloc ?_ _)); exact HX1.out) hb); have n6_ := Aside0.mk (blk_below (g := w3.heap.size) (o := .cells #[.int .i64 r18, .int .i64 r19, .slice Az25 r20.length cz25] 26 (0, 0)) (by (with_reducible repeat (first | refine blk_drewN ?_ _ | refine blk_drew ?_ | refine blk_alloc ?_ _)); exact HX30.out) hb); have n7_ := Aside0.mk (blk_below (g := w4.heap.size) (o := .cells #[.int .i64 a0_0, .int .i64 a0_1, .slice Az34 l0_2.length cz34] 26 (0, 0)) (by (with_reducible repeat (first | refine blk_drewN ?_ _ | refine blk_drew ?_ | refine blk_alloc ?_ _)); exact HX43.out) hb); have n8_ := Aside0.mk (blk_below (g := w5.heap.size) (o := .cells #[.int .i64 r18, .int .i64 r19, .slice Az47 r20.length cz47] 26 (0, 0)) (by (with_reducible repeat (first | refine blk_drewN ?_ _ | refine blk_drew ?_ | refine blk_alloc ?_ _)); exact HX60.out) hb); have n9_ := Aside0.mk (blk_below (g := w14.heap.size) (o := .cells #[.int .i64 r18, .int .i64 r19, .slice Az218 r20.length cz218] 26 (0, 0)) (by repeat (first | exact blk_new_at (by simp) | (with_reducible refine blk_drewN ?_ _) | (with_reducible refine blk_drew ?_) | (with_reducible refine blk_alloc ?_ _))) hb); have n10_ := Aside0.mk (below_step (by repeat (first | (with_reducible first | exact HB.out | apply below_alloc | apply pw_below_drewN | apply below_drew1) | exact HB.out)) hb); have C237 : Aside0 (w14.heap.size + 1 ≤ w15.heap.size) := ⟨by have h_ := hb.size; (try simp at h_); omega⟩; have CCn_ := Aside0.mk (And.intro CC.out C237.out); clear CC; have CC := CCn_; clear CCn_; clear HO24; clear HO33; clear HO46; clear HO217; clear HX1; clear HX30; clear HX43; clear HX60; clear HB; clear hl219; clear hx220; clear hx221; clear hx222; clear hl223; clear hx224; clear hx225; clear hx226; clear hl227; clear hx228; clear hx229; clear hx230; clear hl231; clear hx232; clear hx233; clear hx234; have HO24 := n1_; clear n1_; have HO33 := n2_; clear n2_; have HO46 := n3_; clear n3_; have HO217 := n4_; clear n4_; have HX1 := n5_; clear n5_; have HX30 := n6_; clear n6_; have HX43 := n7_; clear n7_; have HX60 := n8_; clear n8_; have HX235 := n9_; clear n9_; have HB := n10_; clear n10_; (try clear hb); have hl238 : w.heap.size < w15.heap.size := blk_lt HX1.out; have hx239 : w15.cell? ⟨w.heap.size, 0, none⟩ = some (.int .i64 a0_0) := (blk_cell HX1.out 0).trans rfl; have hx240 : w15.cell? ⟨w.heap.size, 1, none⟩ = some (.int .i64 a0_1) := (blk_cell HX1.out 1).trans rfl; have hx241 : w15.cell? ⟨w.heap.size, 2, none⟩ = some (.slice A0_2 l0_2.length c0_2) := (blk_cell HX1.out 2).trans rfl; have hl242 : w3.heap.size < w15.heap.size := blk_lt HX30.out; have hx243 : w15.cell? ⟨w3.heap.size, 0, none⟩ = some (.int .i64 r18) := (blk_cell HX30.out 0).trans rfl; have hx244 : w15.cell? ⟨w3.heap.size, 1, none⟩ = some (.int .i64 r19) := (blk_cell HX30.out 1).trans rfl; have hx245 : w15.cell? ⟨w3.heap.size, 2, none⟩ = some (.slice Az25 r20.length cz25) := (blk_cell HX30.out 2).trans rfl; have hl246 : w4.heap.size < w15.heap.size := blk_lt HX43.out; have hx247 : w15.cell? ⟨w4.heap.size, 0, none⟩ = some (.int .i64 a0_0) := (blk_cell HX43.out 0).trans rfl; have hx248 : w15.cell? ⟨w4.heap.size, 1, none⟩ = some (.int .i64 a0_1) := (blk_cell HX43.out 1).trans rfl; have hx249 : w15.cell? ⟨w4.heap.size, 2, none⟩ = some (.slice Az34 l0_2.length cz34) := (blk_cell HX43.out 2).trans rfl; have hl250 : w5.heap.size < w15.heap.size := blk_lt HX60.out; have hx251 : w15.cell? ⟨w5.heap.size, 0, none⟩ = some (.int .i64 r18) := (blk_cell HX60.out 0).trans rfl; have hx252 : w15.cell? ⟨w5.heap.size, 1, none⟩ = some (.int .i64 r19) := (blk_cell HX60.out 1).trans rfl; have hx253 : w15.cell? ⟨w5.heap.size, 2, none⟩ = some (.slice Az47 r20.length cz47) := (blk_cell HX60.out 2).trans rfl; have hl254 : w14.heap.size < w15.heap.size := blk_lt HX235.out; have hx255 : w15.cell? ⟨w14.heap.size, 0, none⟩ = some (.int .i64 r18) := (blk_cell HX235.out 0).trans rfl; have hx256 : w15.cell? ⟨w14.heap.size, 1, none⟩ = some (.int .i64 r19) := (blk_cell HX235.out 1).trans rfl; have hx257 : w15.cell? ⟨w14.heap.size, 2, none⟩ = some (.slice Az218 r20.length cz218) := (blk_cell HX235.out 2).trans rfl) | ((with_reducible refine gate_callee (f := 18) rfl ?_); refine goesL_ (some 90) rfl rfl Try.func18 (by kernel_rfl) rfl #[.agg #[.int .i64 r18, .int .i64 r19, .slice Az47 r20.length cz47], .int .i64 1] rfl (by (try simp only [List.map_toArray, List.map_cons, List.map_nil]); first | done | rfl | (simp only [List.length_drop, List.length_take]; rfl)) ?_; (with_reducible refine (calls_as ?eq_ (laws_heldMatrix.calls k r18 r19 Az47 cz47 ys157 1 m156 _ ?side1 ?side2 A258.out)).mono ?_); (case eq_ => rw [show ys157.length = r20.length from (Kd.S_reads' HO46.out).1.symm]); (case side1 => exact (Kd.S_reads' (n := r20.length) (A := Az47) (c := cz47) (by (with_reducible repeat (first | apply Kd.S_alloc | apply Kd.S_drewN | apply Kd.S_drew)); exact HO46.out)).2.2); (case side2 => exact Nat.le_trans (Nat.le_of_eq (Kd.S_reads' HO46.out).1.symm) (Kd.S_reads' HO46.out).2.1); rintro e w16 ⟨rfl, hb⟩; refine ⟨_, rfl, ?_⟩; have n1_ := Aside0.mk (Kd.S_below (by (with_reducible repeat (first | apply Kd.S_alloc | apply Kd.S_drewN | apply Kd.S_drew)); exact HO24.out) hb); have n2_ := Aside0.mk (Kd.S_below (by (with_reducible repeat (first | apply Kd.S_alloc | apply Kd.S_drewN | apply Kd.S_drew)); exact HO33.out) hb); have n3_ := Aside0.mk (Kd.S_below (by (with_reducible repeat (first | apply Kd.S_alloc | apply Kd.S_drewN | apply Kd.S_drew)); exact HO46.out) hb); have n4_ := Aside0.mk (Kd.S_below (by (with_reducible repeat (first | apply Kd.S_alloc | apply Kd.S_drewN | apply Kd.S_drew)); exact HO217.out) hb); have n5_ := Aside0.mk (blk_below (g := w.heap.size) (o := .cells #[.int .i64 a0_0, .int .i64 a0_1, .slice A0_2 l0_2.length c0_2] 24 (0, 0)) (by (with_reducible repeat (first | refine blk_drewN ?_ _ | refine blk_drew ?_ | refine blk_alloc ?_ _)); exact HX1.out) hb); have n6_ := Aside0.mk (blk_below (g := w3.heap.size) (o := .cells #[.int .i64 r18, .int .i64 r19, .slice Az25 r20.length cz25] 26 (0, 0)) (by (with_reducible repeat (first | refine blk_drewN ?_ _ | refine blk_drew ?_ | refine blk_alloc ?_ _)); exact HX30.out) hb); have n7_ := Aside0.mk (blk_below (g := w4.heap.size) (o := .cells #[.int .i64 a0_0, .int .i64 a0_1, .slice Az34 l0_2.length cz34] 26 (0, 0)) (by (with_reducible repeat (first | refine blk_drewN ?_ _ | refine blk_drew ?_ | refine blk_alloc ?_ _)); exact HX43.out) hb); have n8_ := Aside0.mk (blk_below (g := w5.heap.size) (o := .cells #[.int .i64 r18, .int .i64 r19, .slice Az47 r20.length cz47] 26 (0, 0)) (by (with_reducible repeat (first | refine blk_drewN ?_ _ | refine blk_drew ?_ | refine blk_alloc ?_ _)); exact HX60.out) hb); have n9_ := Aside0.mk (blk_below (g := w14.heap.size) (o := .cells #[.int .i64 r18, .int .i64 r19, .slice Az218 r20.length cz218] 26 (0, 0)) (by (with_reducible repeat (first | refine blk_drewN ?_ _ | refine blk_drew ?_ | refine blk_alloc ?_ _)); exact HX235.out) hb); have n10_ := Aside0.mk (below_step (by repeat (first | (with_reducible first | exact HB.out | apply below_alloc | apply pw_below_drewN | apply below_drew1) | exact HB.out)) hb); have C259 : Aside0 (w15.heap.size ≤ w16.heap.size) := ⟨by have h_ := hb.size; (try simp at h_); omega⟩; have CCn_ := Aside0.mk (And.intro CC.out C259.out); clear CC; have CC := CCn_; clear CCn_; clear HO24; clear HO33; clear HO46; clear HO217; clear HX1; clear HX30; clear HX43; clear HX60; clear HX235; clear HB; clear hl238; clear hx239; clear hx240; clear hx241; clear hl242; clear hx243; clear hx244; clear hx245; clear hl246; clear hx247; clear hx248; clear hx249; clear hl250; clear hx251; clear hx252; clear hx253; clear hl254; clear hx255; clear hx256; clear hx257; have HO24 := n1_; clear n1_; have HO33 := n2_; clear n2_; have HO46 := n3_; clear n3_; have HO217 := n4_; clear n4_; have HX1 := n5_; clear n5_; have HX30 := n6_; clear n6_; have HX43 := n7_; clear n7_; have HX60 := n8_; clear n8_; have HX235 := n9_; clear n9_; have HB := n10_; clear n10_; (try clear hb); have hl260 : w.heap.size < w16.heap.size := blk_lt HX1.out; have hx261 : w16.cell? ⟨w.heap.size, 0, none⟩ = some (.int .i64 a0_0) := (blk_cell HX1.out 0).trans rfl; have hx262 : w16.cell? ⟨w.heap.size, 1, none⟩ = some (.int .i64 a0_1) := (blk_cell HX1.out 1).trans rfl; have hx263 : w16.cell? ⟨w.heap.size, 2, none⟩ = some (.slice A0_2 l0_2.length c0_2) := (blk_cell HX1.out 2).trans rfl; have hl264 : w3.heap.size < w16.heap.size := blk_lt HX30.out; have hx265 : w16.cell? ⟨w3.heap.size, 0, none⟩ = some (.int .i64 r18) := (blk_cell HX30.out 0).trans rfl; have hx266 : w16.cell? ⟨w3.heap.size, 1, none⟩ = some (.int .i64 r19) := (blk_cell HX30.out 1).trans rfl; have hx267 : w16.cell? ⟨w3.heap.size, 2, none⟩ = some (.slice Az25 r20.length cz25) := (blk_cell HX30.out 2).trans rfl; have hl268 : w4.heap.size < w16.heap.size := blk_lt HX43.out; have hx269 : w16.cell? ⟨w4.heap.size, 0, none⟩ = some (.int .i64 a0_0) := (blk_cell HX43.out 0).trans rfl; have hx270 : w16.cell? ⟨w4.heap.size, 1, none⟩ = some (.int .i64 a0_1) := (blk_cell HX43.out 1).trans rfl; have hx271 : w16.cell? ⟨w4.heap.size, 2, none⟩ = some (.slice Az34 l0_2.length cz34) := (blk_cell HX43.out 2).trans rfl; have hl272 : w5.heap.size < w16.heap.size := blk_lt HX60.out; have hx273 : w16.cell? ⟨w5.heap.size, 0, none⟩ = some (.int .i64 r18) := (blk_cell HX60.out 0).trans rfl; have hx274 : w16.cell? ⟨w5.heap.size, 1, none⟩ = some (.int .i64 r19) := (blk_cell HX60.out 1).trans rfl; have hx275 : w16.cell? ⟨w5.heap.size, 2, none⟩ = some (.slice Az47 r20.length cz47) := (blk_cell HX60.out 2).trans rfl; have hl276 : w14.heap.size < w16.heap.size := blk_lt HX235.out; have hx277 : w16.cell? ⟨w14.heap.size, 0, none⟩ = some (.int .i64 r18) := (blk_cell HX235.out 0).trans rfl; have hx278 : w16.cell? ⟨w14.heap.size, 1, none⟩ = some (.int .i64 r19) := (blk_cell HX235.out 1).trans rfl; have hx279 : w16.cell? ⟨w14.heap.size, 2, none⟩ = some (.slice Az218 r20.length cz218) := (blk_cell HX235.out 2).trans rfl))
  go_ret
  exact ⟨rfl, by repeat (first | (with_reducible first | exact HB.out | apply below_alloc | apply pw_below_drewN | apply below_drew1) | exact HB.out)⟩

end Go.Proofs.Ytjpbemomocccaaa.P

namespace Go.Proofs.Ytjpbemomocccaaa.P
open Go.RowKit Go.Proofs.YtjpbemomocccaaaW.PrintWords Go.Proofs.YtjpbemomocccaaaW.PrintLast Go.Proofs.YtjpbemomocccaaaW.PrintMore
attribute [local go_sem] max2_int min2_int max_two min_two max_three min_three max_four min_four
set_option linter.unusedVariables false
set_option linter.unusedSimpArgs false

section
variable {H : Type} {enc : TypeId × Value → H} {P : Program} {w : World} {base : Nat} {held : Bool} {α : Type}
/-- Whatever reads as a datum of type t (at this depth) is a value of kind d. -/
def OpensAt (enc : TypeId × Value → H) (P : Program) (w : World) (base : Nat) (held : Bool) (n : Nat) (t : TypeId) (d : Kd α) (wf : α → Prop) : Prop :=
  ∀ cs x, DataW.trod enc P w base (fun _ => true) held n t cs = some x → ∃ a, d.K w a cs ∧ wf a
theorem opens_int (n : Nat) {t : TypeId} {k : IntKind} (ht : P.underlying t = some (.int k)) : OpensAt enc P w base held n t (Kd.int k) (fun a => (Lit.int k a).wf = true) := fun cs x h => by
  obtain ⟨a, rfl, _, hw⟩ := DataW.trod_int ht h
  exact ⟨a, rfl, hw⟩
theorem list_upto {Q : Nat → α → Prop} : ∀ n, (∀ i, i < n → ∃ y, Q i y) → ∃ xs : List α, xs.length = n ∧ ∀ (i : Nat) (y : α), xs[i]? = some y → Q i y
  | 0, _ => ⟨[], rfl, fun i y h => by simp at h⟩
  | n + 1, h => by
    obtain ⟨xs, hl, hx⟩ := list_upto n (fun i hi => h i (by omega))
    obtain ⟨y, hy⟩ := h n (by omega)
    refine ⟨xs ++ [y], by simp [hl], fun i z hz => ?_⟩
    by_cases e : i < xs.length
    · rw [List.getElem?_append_left e] at hz
      exact hx i z hz
    · rw [List.getElem?_append_right (by omega)] at hz
      have : i - xs.length = 0 := by
        have := (List.getElem?_eq_some_iff.1 hz).1
        simp at this
        omega
      rw [this] at hz
      obtain rfl : y = z := by simpa using hz
      obtain rfl : i = n := by omega
      exact hy
theorem opens_slice (n : Nat) {t e : TypeId} {d : Kd α} {wf : α → Prop} (ht : P.underlying t = some (.slice e)) (hc : P.cellsOf e = d.sz) (he : OpensAt enc P w base held n e d wf) :
    OpensAt enc P w base held (n + 1) t (Kd.slice e d) (fun xs => xs.length ≤ 9223372036854775807 ∧ ∀ x ∈ xs, wf x) := fun cs x h => by
  rcases DataW.trod_slice ht h with ⟨rfl, _⟩ | ⟨a, len, cap, elems, rest, m, hn, rfl, _, _, hl, hm, hlen, hel, _, _⟩
  · exact ⟨[], ⟨none, 0, rfl, Nat.le_refl _, ⟨rfl, by simp, fun h => absurd h (by simp)⟩⟩, by simp⟩
  · obtain rfl : n = m := by omega
    obtain ⟨xs, hxl, hx⟩ := list_upto (Q := fun i y => (∃ c : List Value, c.length = d.sz ∧ d.K w y c ∧ ∀ j u, c[j]? = some u → w.cell? (a.add (i * d.sz + j)) = some u) ∧ wf y) len (fun i hi => by
      have h1 := hel i hi
      rw [List.getElem?_eq_getElem (by omega)] at h1
      obtain ⟨c, hc1, hc2⟩ := Option.bind_eq_some_iff.1 h1
      obtain ⟨y, hy, hw⟩ := he c _ hc2
      obtain ⟨_, hcl, hcc⟩ := World.cells?_some hc1
      refine ⟨y, ⟨c, by rw [hcl, hc], hy, fun j u hu => ?_⟩, hw⟩
      have hj : j < P.cellsOf e := by rw [← hcl]; exact (List.getElem?_eq_some_iff.1 hu).1
      have h2 := hcc j hj
      rw [hu, hc] at h2
      rw [← h2, Addr.add_add])
    subst hxl
    unfold maxLen at hm
    refine ⟨xs, ⟨some a, cap, rfl, hl, ⟨rfl, by omega, fun _ => ⟨a, rfl, fun j p hj => (hx j p hj).1⟩⟩⟩, by omega, fun y hy => ?_⟩
    obtain ⟨i, hi⟩ := List.mem_iff_getElem?.1 hy
    exact (hx i y hi).2
/-- At any depth. -/
theorem OpensAt.any {t : TypeId} {d : Kd α} {wf : α → Prop} (h : ∀ n, OpensAt enc P w base held n t d wf) {v : Value} {y : DataW H} {p : List MemPlace} (hv : DataW.Trod enc P w base (fun _ => true) held t v y p) : ∃ a, d.K w a v.cells.toList ∧ wf a := by
  obtain ⟨fuel, hf⟩ := hv
  exact h fuel _ _ hf
theorem opens_slice_any {t e : TypeId} {d : Kd α} {wf : α → Prop} (ht : P.underlying t = some (.slice e)) (hc : P.cellsOf e = d.sz) (he : ∀ n, OpensAt enc P w base held n e d wf) : ∀ n, OpensAt enc P w base held n t (Kd.slice e d) (fun xs => xs.length ≤ 9223372036854775807 ∧ ∀ x ∈ xs, wf x)
  | 0 => fun cs x h => by simp [DataW.trod] at h
  | n + 1 => opens_slice n ht hc (he n)
end

end Go.Proofs.Ytjpbemomocccaaa.P

namespace Go.Proofs.Ytjpbemomocccaaa.P
open Go.RowKit Go.Proofs.YtjpbemomocccaaaW.PrintWords Go.Proofs.YtjpbemomocccaaaW.PrintLast Go.Proofs.YtjpbemomocccaaaW.PrintMore
attribute [local go_sem] max2_int min2_int max_two min_two max_three min_three max_four min_four
set_option linter.unusedVariables false
set_option linter.unusedSimpArgs false

def wfS24 (x : S24) : Prop := ((Lit.int .i64 x.f0).wf = true) ∧ ((Lit.int .i64 x.f1).wf = true) ∧ (x.f2.length ≤ 9223372036854775807 ∧ ∀ y12_ ∈ x.f2, y12_.length ≤ 9223372036854775807 ∧ ∀ y7_ ∈ y12_, (Lit.int .i64 y7_).wf = true)
theorem list_of_24 {α : Type} {l : List α} (h : l.length = 3) : ∃ c0 c1 c2, l = [c0, c1, c2] := by
  match l, h with
  | [c0, c1, c2], _ => exact ⟨c0, c1, c2, rfl⟩
theorem opensS24 {H : Type} {enc : TypeId × Value → H} {w : World} {base : Nat} {held : Bool} : ∀ n, OpensAt enc Try.prog w base held n 24 k24 wfS24
  | 0 => fun cs x h => by simp [DataW.trod] at h
  | n + 1 => fun cs x h => by
    obtain ⟨xs, m, hm, _, hl, hlen, hf⟩ := DataW.trod_struct Try.underlying24 h
    obtain rfl : n = m := by omega
    rw [show Try.prog.cellsOf 24 = 3 from by kernel_rfl] at hl
    obtain ⟨c0, c1, c2, rfl⟩ := list_of_24 hl
    have h0 : DataW.trod enc Try.prog w base (fun _ => true) held (n) 2 [c0] = xs[0]? := by
        have q := hf 0 _ rfl
        simpa [show Try.prog.cellsOf 2 = 1 from by kernel_rfl] using q
    rw [List.getElem?_eq_getElem (by rw [hlen]; decide)] at h0
    obtain ⟨a0, e0, w0⟩ := (fun n => opens_int n Try.underlying2) (n) _ _ h0
    cases e0
    have h1 : DataW.trod enc Try.prog w base (fun _ => true) held (n) 2 [c1] = xs[1]? := by
        have q := hf 1 _ rfl
        simpa [show Try.prog.cellsOf 2 = 1 from by kernel_rfl] using q
    rw [List.getElem?_eq_getElem (by rw [hlen]; decide)] at h1
    obtain ⟨a1, e1, w1⟩ := (fun n => opens_int n Try.underlying2) (n) _ _ h1
    cases e1
    have h2 : DataW.trod enc Try.prog w base (fun _ => true) held (n) 22 [c2] = xs[2]? := by
        have q := hf 2 _ rfl
        simpa [show Try.prog.cellsOf 22 = 1 from by kernel_rfl] using q
    rw [List.getElem?_eq_getElem (by rw [hlen]; decide)] at h2
    obtain ⟨a2, ⟨A2, n2, e2, l2, g2⟩, w2⟩ := (opens_slice_any Try.underlying22 (by kernel_rfl) (opens_slice_any Try.underlying35 (by kernel_rfl) (fun n => opens_int n Try.underlying2))) (n) _ _ h2
    cases e2
    exact ⟨⟨a0, a1, a2⟩, k24_mk w ⟨a0, a1, a2⟩ l2 g2, w0, w1, w2⟩

end Go.Proofs.Ytjpbemomocccaaa.P

namespace Go.Proofs.Ytjpbemomocccaaa.P
open Go.RowKit Go.Proofs.YtjpbemomocccaaaW.PrintWords Go.Proofs.YtjpbemomocccaaaW.PrintLast Go.Proofs.YtjpbemomocccaaaW.PrintMore
attribute [local go_sem] max2_int min2_int max_two min_two max_three min_three max_four min_four
set_option linter.unusedVariables false
set_option linter.unusedSimpArgs false

def laws_FnExactKernelOf.Way0 (x0 : S24) : Prop := ∃ k : Nat, ∃ (s2 : Int), (laws_szMatrix.f k x0.f0 x0.f1 x0.f2 1048576 = some s2) ∧ (decide (s2 < 0) = true)
def laws_FnExactKernelOf.Way1 (x0 : S24) : Prop := ∃ k : Nat, ∃ (s2 : Int) (r18 : Int) (r19 : Int) (r20 : List (List Int)) (r21 : Int) (m117 : Int) (ys118 : List (List Int)) (m156 : Int) (ys157 : List (List Int)), (laws_szMatrix.f k x0.f0 x0.f1 x0.f2 1048576 = some s2) ∧ (decide (s2 < 0) = false) ∧ (laws_toMatrix.f k x0.f0 x0.f1 x0.f2 = some (x0.f0, x0.f1, x0.f2)) ∧ (spec_KernelOf.f k x0.f0 x0.f1 x0.f2 = some (r18, r19, r20, r21)) ∧ (laws_toMatrix.f k x0.f0 x0.f1 x0.f2 = some (x0.f0, x0.f1, x0.f2)) ∧ (impl_KernelOf.f k x0.f0 x0.f1 x0.f2 = some (r18, r19, r20, r21)) ∧ (laws_eqMatrix.f k r18 r19 r20 r18 r19 r20 = some true) ∧ (laws_toMatrix.f k x0.f0 x0.f1 x0.f2 = some (x0.f0, x0.f1, x0.f2)) ∧ (laws_eqMatrix.f k x0.f0 x0.f1 x0.f2 x0.f0 x0.f1 x0.f2 = some true) ∧ (laws_markMatrix.f k x0.f0 x0.f1 x0.f2 1 = some (m117, ys118)) ∧ (decide (m117 < 0) = false) ∧ (laws_eqMatrix.f k r18 r19 r20 r18 r19 r20 = some true) ∧ (laws_markMatrix.f k r18 r19 r20 1 = some (m156, ys157)) ∧ (laws_heldMatrix.f k r18 r19 ys157 1 = some m156) ∧ (decide (m156 < 0) = false) ∧ (laws_toMatrix.f k x0.f0 x0.f1 x0.f2 = some (x0.f0, x0.f1, x0.f2)) ∧ (impl_KernelOf.f k x0.f0 x0.f1 x0.f2 = some (r18, r19, r20, r21)) ∧ (laws_eqMatrix.f k r18 r19 r20 r18 r19 r20 = some true) ∧ (laws_heldMatrix.f k r18 r19 ys157 1 = some m156) ∧ (decide (m156 < 0) = false)
def laws_FnExactKernelOf.Pure : Prop := ∀ (x0 : S24), wfS24 x0 → laws_FnExactKernelOf.Way0 x0 ∨ laws_FnExactKernelOf.Way1 x0
theorem laws_FnExactKernelOf.walk (P : laws_FnExactKernelOf.Pure) (x0 : S24) (A0_2 : Option Addr) (c0_2 : Nat) (w : World) (hr0_2 : Kd.C (Kd.slice 2 (Kd.int .i64)) w A0_2 x0.f2.length x0.f2) (hc0_2 : x0.f2.length ≤ c0_2) (wf0 : wfS24 x0) :
    Calls Try.prog 4 #[.agg #[.int .i64 x0.f0, .int .i64 x0.f1, .slice A0_2 x0.f2.length c0_2]] w fun e w' => e = .returned (.bool true) ∧ Below w.heap.size w w' := by
  rcases P x0 wf0 with h | h
  · obtain ⟨k, s2, A3, t9⟩ := h
    exact laws_FnExactKernelOf.way0 k x0.f0 x0.f1 _ _ x0.f2 s2 w hr0_2 hc0_2 A3 t9
  · obtain ⟨k, s2, r18, r19, r20, r21, m117, ys118, m156, ys157, A3, t9, A10, A22, A31, A44, A61, A79, A99, A119, t137, A138, A158, A176, t194, A195, A215, A236, A258, t280⟩ := h
    exact laws_FnExactKernelOf.way1 k x0.f0 x0.f1 _ _ x0.f2 s2 r18 r19 r20 r21 m117 ys118 m156 ys157 w hr0_2 hc0_2 A3 t9 A10 A22 A31 A44 A61 A79 A99 A119 t137 A138 A158 A176 t194 A195 A215 A236 A258 t280

end Go.Proofs.Ytjpbemomocccaaa.P

namespace Go.Proofs.Ytjpbemomocccaaa.P
open Go.RowKit Go.Proofs.YtjpbemomocccaaaW.PrintWords Go.Proofs.YtjpbemomocccaaaW.PrintLast Go.Proofs.YtjpbemomocccaaaW.PrintMore
attribute [local go_sem] max2_int min2_int max_two min_two max_three min_three max_four min_four
set_option linter.unusedVariables false
set_option linter.unusedSimpArgs false

theorem toInt64S_loop (l : List Int) (hl : l.length ≤ 1048576) : ∀ (d i : Nat), i + d = l.length → Ev (fun k => laws_toInt64S.l0 k l (l.take i ++ List.replicate d 0) (i : Int)) l := by
  intro d
  induction d with
  | zero =>
    intro i hi
    refine Ev.step (f := fun _ => some l) (fun k => ?_) (Ev.now _)
    simp only [laws_toInt64S.l0]
    rw [if_neg (by omega)]
    simp [List.take_of_length_le (show l.length ≤ i by omega)]
  | succ d ih =>
    intro i hi
    have hlt : i < l.length := by omega
    refine Ev.step (fun k => ?_) (ih (i + 1) (by omega))
    simp only [laws_toInt64S.l0]
    rw [if_pos (by omega), if_pos (by omega), if_pos (by simp; omega), wr (by omega) (by omega), rd_nat l i hlt]
    have e : (l.take i ++ List.replicate (d + 1) 0).set ((i : Int)).toNat l[i] = l.take (i + 1) ++ List.replicate d 0 := by
      have e0 : (l.take i).length = i := by rw [List.length_take]; omega
      rw [Int.toNat_natCast, List.set_append_right _ _ (by omega), e0, Nat.sub_self, List.replicate_succ, List.set_cons_zero, List.take_succ_eq_append_getElem hlt, List.append_assoc]
      rfl
    rw [e]
    rfl
theorem toInt64S_ev (l : List Int) (hl : l.length ≤ 1048576) : Ev (fun k => laws_toInt64S.f k l) l := by
  unfold laws_toInt64S.f
  simp only [if_pos (show (0 : Int) ≤ (l.length : Int) by omega), if_pos (show ((l.length : Int)).toNat ≤ 35184372088832 by omega)]
  have := toInt64S_loop l hl l.length 0 (by omega)
  rw [List.take_zero, List.nil_append] at this
  rw [Int.toNat_natCast]
  exact this
theorem eqInt64S_loop (a b : List Int) (hl : a.length ≤ 1048576) (hab : a.length = b.length) : ∀ (d i : Nat), i + d = a.length → Ev (fun k => laws_eqInt64S.l0 k a b (i : Int)) (decide (a.drop i = b.drop i)) := by
  intro d
  induction d with
  | zero =>
    intro i hi
    refine Ev.step (f := fun _ => some true) (fun k => ?_) ?_
    · simp only [laws_eqInt64S.l0]
      rw [if_neg (by omega)]
    · rw [List.drop_eq_nil_of_le (by omega), List.drop_eq_nil_of_le (by omega), decide_eq_true rfl]
      exact Ev.now _
  | succ d ih =>
    intro i hi
    have h1 : i < a.length := by omega
    have h2 : i < b.length := by omega
    have ed : (a.drop i = b.drop i) ↔ (a[i] = b[i] ∧ a.drop (i + 1) = b.drop (i + 1)) := by
      rw [List.drop_eq_getElem_cons h1, List.drop_eq_getElem_cons h2, List.cons.injEq]
    by_cases e : a[i] = b[i]
    · rw [show decide (a.drop i = b.drop i) = decide (a.drop (i + 1) = b.drop (i + 1)) from by simp only [ed, e, true_and]]
      refine Ev.step (fun k => ?_) (ih (i + 1) (by omega))
      simp only [laws_eqInt64S.l0]
      rw [if_pos (by omega), if_pos (by omega), if_pos (by omega), rd_nat a i h1, rd_nat b i h2, if_pos e, wr (by omega) (by omega)]
      rfl
    · refine Ev.step (f := fun _ => some false) (fun k => ?_) ?_
      · simp only [laws_eqInt64S.l0]
        rw [if_pos (by omega), if_pos (by omega), if_pos (by omega), rd_nat a i h1, rd_nat b i h2, if_neg e]
      · rw [decide_eq_false (by rw [ed]; simp [e])]
        exact Ev.now _
theorem eqInt64S_ev (a b : List Int) (hl : a.length ≤ 1048576) : Ev (fun k => laws_eqInt64S.f k a b) (decide (a = b)) := by
  unfold laws_eqInt64S.f
  by_cases h : a.length = b.length
  · simp only [if_pos (show (a.length : Int) = (b.length : Int) by omega)]
    have := eqInt64S_loop a b hl h a.length 0 (by omega)
    rw [List.drop_zero, List.drop_zero] at this
    exact this
  · simp only [if_neg (show ¬ (a.length : Int) = (b.length : Int) by omega)]
    rw [decide_eq_false (by intro e; exact h (by rw [e]))]
    exact Ev.now _
def before (l : List Int) (i : Nat) : Option Int := if i = 0 then none else l[i - 1]?
end Go.Proofs.Ytjpbemomocccaaa.P

namespace Go.Proofs.Ytjpbemomocccaaa.P
open Go.RowKit Go.Proofs.YtjpbemomocccaaaW.PrintWords Go.Proofs.YtjpbemomocccaaaW.PrintLast Go.Proofs.YtjpbemomocccaaaW.PrintMore
attribute [local go_sem] max2_int min2_int max_two min_two max_three min_three max_four min_four
set_option linter.unusedVariables false
set_option linter.unusedSimpArgs false

/-- A loop that goes on while q says yes, and ends with stop where it says no. -/
theorem scan_ev {ρ : Type} {l : Nat → Int → Option ρ} {n : Nat} {q : Nat → Bool} {fin stop : ρ}
    (hgo : ∀ i : Nat, i < n → q i = true → ∀ r, Ev (fun k => l k ((i + 1 : Nat) : Int)) r → Ev (fun k => l k (i : Int)) r)
    (hstop : ∀ i : Nat, i < n → q i = false → Ev (fun k => l k (i : Int)) stop)
    (hend : Ev (fun k => l k (n : Int)) fin) : Ev (fun k => l k 0) (if (List.range n).all q then fin else stop) := by
  have key : ∀ d i : Nat, i + d = n → Ev (fun k => l k (i : Int)) (if ((List.range n).drop i).all q then fin else stop) := by
    intro d
    induction d with
    | zero =>
      intro i hi
      obtain rfl : i = n := by omega
      rw [List.drop_eq_nil_of_le (by simp)]
      exact hend
    | succ d ih =>
      intro i hi
      rw [List.drop_eq_getElem_cons (by simp; omega), List.getElem_range, List.all_cons]
      cases hq : q i with
      | false => exact hstop i (by omega) hq
      | true => rw [Bool.true_and]; exact hgo i (by omega) hq _ (ih (i + 1) (by omega))
  have := key n 0 (by omega)
  rw [List.drop_zero] at this
  exact this
theorem range_all {α : Type} (xs : List α) (p : α → Bool) (q : Nat → Bool) (h : ∀ (i : Nat) (hi : i < xs.length), q i = p xs[i]) : (List.range xs.length).all q = xs.all p := by
  rw [Bool.eq_iff_iff, List.all_eq_true, List.all_eq_true]
  constructor
  · intro hq x hx
    obtain ⟨i, hi, rfl⟩ := List.getElem_of_mem hx
    rw [← h i hi]
    exact hq i (by simpa using hi)
  · intro hp i hi
    have hi' : i < xs.length := by simpa using hi
    rw [h i hi']
    exact hp _ (List.getElem_mem hi')
theorem rdL_nat (xs : List (List Int)) (i : Nat) (h : i < xs.length) : rd_L1 xs (i : Int) = xs[i] := by
  simp [rd_L1, h]
/-- How many values a list of lists holds, the lists themselves counted. -/
def bulk (rows : List (List Int)) : Nat := rows.length + (rows.map List.length).sum
theorem sum_take_le (l : List Nat) (i : Nat) : (l.take i).sum ≤ l.sum := by
  conv => rhs; rw [← List.take_append_drop i l, List.sum_append]
  omega
theorem sum_take_succ (l : List Nat) (i : Nat) (h : i < l.length) : (l.take (i + 1)).sum = (l.take i).sum + l[i] := by
  rw [List.take_succ_eq_append_getElem h, List.sum_append]; simp
theorem sum_mem_le (l : List Nat) (x : Nat) (h : x ∈ l) : x ≤ l.sum := by
  obtain ⟨i, hi, rfl⟩ := List.getElem_of_mem h
  have := sum_take_succ l i hi
  have := sum_take_le l (i + 1)
  omega
theorem szInt64S_eq (l : List Int) (a : Int) (ha : 0 ≤ a ∧ a ≤ 1048576) (hl : l.length ≤ 9223372036854775807) : laws_szInt64S.f l a = some (if (l.length : Int) ≤ a then a - l.length else -1) := by
  unfold laws_szInt64S.f
  rw [wr (by omega) (by omega)]
  by_cases h : (l.length : Int) ≤ a
  · rw [if_neg (by omega), if_pos h]
  · rw [if_pos (by omega), if_neg h]
theorem szInt64SS_ev (rows : List (List Int)) (a : Int) (ha : 0 ≤ a ∧ a ≤ 1048576) (hl : rows.length ≤ 9223372036854775807) (hr : ∀ r ∈ rows, r.length ≤ 9223372036854775807) :
    Ev (fun k => laws_szInt64SS.f k rows a) (if (bulk rows : Int) ≤ a then a - bulk rows else -1) := by
  unfold laws_szInt64SS.f
  rw [wr (by omega) (by omega)]
  by_cases h0 : a - (rows.length : Int) < 0
  · simp only [if_pos h0]
    rw [if_neg (by unfold bulk; omega)]
    exact Ev.now _
  · simp only [if_neg h0]
    have key : ∀ d i : Nat, i + d = rows.length → ∀ b : Int, 0 ≤ b → b = a - rows.length - ((rows.map List.length).take i).sum → Ev (fun k => laws_szInt64SS.l0 k rows b (i : Int)) (if (bulk rows : Int) ≤ a then a - bulk rows else -1) := by
      intro d
      induction d with
      | zero =>
        intro i hi b hb hbe
        rw [List.take_of_length_le (by simp; omega)] at hbe
        rw [if_pos (by unfold bulk; omega), show a - ((bulk rows : Nat) : Int) = b from by unfold bulk; omega]
        refine Ev.step (f := fun _ => some b) (fun k => ?_) (Ev.now _)
        simp only [laws_szInt64SS.l0]
        rw [if_neg (by omega)]
      | succ d ih =>
        intro i hi b hb hbe
        have hlt : i < rows.length := by omega
        have hs := sum_take_succ (rows.map List.length) i (by simpa using hlt)
        rw [List.getElem_map] at hs
        have hs2 := sum_take_le (rows.map List.length) (i + 1)
        have hri := hr _ (List.getElem_mem hlt)
        by_cases hc : ((rows[i]).length : Int) ≤ b
        · refine Ev.step (fun k => ?_) (ih (i + 1) (by omega) (b - (rows[i]).length) (by omega) (by omega))
          simp only [laws_szInt64SS.l0]
          rw [if_pos (by omega), if_pos (by omega), rdL_nat rows i hlt, szInt64S_eq _ _ (by omega) hri, if_pos hc, wr (x := (i : Int) + 1) (by omega) (by omega)]
          simp only [Option.bind_some]
          rw [if_neg (by omega)]
          rfl
        · refine Ev.step (f := fun _ => some (-1)) (fun k => ?_) ?_
          · simp only [laws_szInt64SS.l0]
            rw [if_pos (by omega), if_pos (by omega), rdL_nat rows i hlt, szInt64S_eq _ _ (by omega) hri, if_neg hc]
            rfl
          · rw [if_neg (by unfold bulk; omega)]
            exact Ev.now _
    exact key rows.length 0 (by omega) _ (by omega) (by simp)
theorem bulk_len {rows : List (List Int)} {n : Nat} (h : bulk rows ≤ n) : rows.length ≤ n ∧ ∀ r ∈ rows, r.length ≤ n := by
  unfold bulk at h
  refine ⟨by omega, fun r hr => ?_⟩
  have := sum_mem_le (rows.map List.length) r.length (List.mem_map_of_mem hr)
  omega
theorem toInt64SS_ev (l : List (List Int)) (hl : l.length ≤ 1048576) (hr : ∀ r ∈ l, r.length ≤ 1048576) : Ev (fun k => laws_toInt64SS.f k l) l := by
  unfold laws_toInt64SS.f
  simp only [if_pos (show (0 : Int) ≤ (l.length : Int) by omega), if_pos (show ((l.length : Int)).toNat ≤ 11728124029610 by omega)]
  have go : ∀ (d i : Nat), i + d = l.length → Ev (fun k => laws_toInt64SS.l0 k l (l.take i ++ List.replicate d []) (i : Int)) l := by
    intro d
    induction d with
    | zero =>
      intro i hi
      refine Ev.step (f := fun _ => some l) (fun k => ?_) (Ev.now _)
      simp only [laws_toInt64SS.l0]
      rw [if_neg (by omega)]
      simp [List.take_of_length_le (show l.length ≤ i by omega)]
    | succ d ih =>
      intro i hi
      have hlt : i < l.length := by omega
      refine Ev.step (f := fun k => (laws_toInt64S.f k l[i]).bind fun t => laws_toInt64SS.l0 k l ((l.take i ++ List.replicate (d + 1) []).set i t) ((i + 1 : Nat) : Int)) (fun k => ?_) ?_
      · simp only [laws_toInt64SS.l0]
        rw [if_pos (by omega), if_pos (by omega), rdL_nat l i hlt, wr (by omega) (by omega)]
        simp only [if_pos (show (i : Int) < ((l.take i ++ List.replicate (d + 1) ([] : List Int)).length : Int) by simp; omega), Int.toNat_natCast]
        rfl
      · refine Ev.bind (toInt64S_ev _ (hr _ (List.getElem_mem hlt))) ?_
        have e0 : (l.take i).length = i := by rw [List.length_take]; omega
        have e : (l.take i ++ List.replicate (d + 1) []).set i l[i] = l.take (i + 1) ++ List.replicate d [] := by
          rw [List.set_append_right _ _ (by omega), e0, Nat.sub_self, List.replicate_succ, List.set_cons_zero, List.take_succ_eq_append_getElem hlt, List.append_assoc]
          rfl
        rw [e]
        exact ih (i + 1) (by omega)
  have := go l.length 0 (by omega)
  rw [List.take_zero, List.nil_append] at this
  rw [Int.toNat_natCast]
  exact this
theorem eqInt64SS_ev (a b : List (List Int)) (hl : a.length ≤ 1048576) (hr : ∀ r ∈ a, r.length ≤ 1048576) : Ev (fun k => laws_eqInt64SS.f k a b) (decide (a = b)) := by
  unfold laws_eqInt64SS.f
  by_cases h : a.length = b.length
  · simp only [if_pos (show (a.length : Int) = (b.length : Int) by omega)]
    have key : ∀ (d i : Nat), i + d = a.length → Ev (fun k => laws_eqInt64SS.l0 k a b (i : Int)) (decide (a.drop i = b.drop i)) := by
      intro d
      induction d with
      | zero =>
        intro i hi
        refine Ev.step (f := fun _ => some true) (fun k => ?_) ?_
        · simp only [laws_eqInt64SS.l0]
          rw [if_neg (by omega)]
        · rw [List.drop_eq_nil_of_le (by omega), List.drop_eq_nil_of_le (by omega), decide_eq_true rfl]
          exact Ev.now _
      | succ d ih =>
        intro i hi
        have h1 : i < a.length := by omega
        have h2 : i < b.length := by omega
        have ed : (a.drop i = b.drop i) ↔ (a[i] = b[i] ∧ a.drop (i + 1) = b.drop (i + 1)) := by
          rw [List.drop_eq_getElem_cons h1, List.drop_eq_getElem_cons h2, List.cons.injEq]
        refine Ev.step (f := fun k => (laws_eqInt64S.f k a[i] b[i]).bind fun t => if t = true then laws_eqInt64SS.l0 k a b ((i + 1 : Nat) : Int) else some false) (fun k => ?_) ?_
        · simp only [laws_eqInt64SS.l0]
          rw [if_pos (by omega), if_pos (by omega), if_pos (by omega), rdL_nat a i h1, rdL_nat b i h2, wr (by omega) (by omega)]
          rfl
        · refine Ev.bind (eqInt64S_ev _ _ (hr _ (List.getElem_mem h1))) ?_
          by_cases e : a[i] = b[i]
          · rw [decide_eq_true e, show decide (a.drop i = b.drop i) = decide (a.drop (i + 1) = b.drop (i + 1)) from by simp only [ed, e, true_and]]
            exact ih (i + 1) (by omega)
          · rw [decide_eq_false e, decide_eq_false (by rw [ed]; simp [e])]
            exact Ev.now _
    have := key a.length 0 (by omega)
    rw [List.drop_zero, List.drop_zero] at this
    exact this
  · simp only [if_neg (show ¬ (a.length : Int) = (b.length : Int) by omega)]
    rw [decide_eq_false (by intro e; exact h (by rw [e]))]
    exact Ev.now _
theorem eqInt64SS_same (a : List (List Int)) (hl : a.length ≤ 1048576) (hr : ∀ r ∈ a, r.length ≤ 1048576) : Ev (fun k => laws_eqInt64SS.f k a a) true := by
  have := eqInt64SS_ev a a hl hr
  rwa [decide_eq_true rfl] at this
theorem szMatrix_ev (p c : Int) (rows : List (List Int)) (a : Int) (ha : 0 ≤ a ∧ a ≤ 1048576) (hl : rows.length ≤ 9223372036854775807) (hr : ∀ r ∈ rows, r.length ≤ 9223372036854775807) :
    Ev (fun k => laws_szMatrix.f k p c rows a) (if (bulk rows : Int) ≤ a then a - bulk rows else -1) := by
  unfold laws_szMatrix.f
  refine Ev.bind (szInt64SS_ev rows a ha hl hr) ?_
  by_cases h : (bulk rows : Int) ≤ a
  · simp only [if_pos h, if_neg (show ¬ (a - (bulk rows : Int) < 0) by omega)]
    exact Ev.now _
  · simp only [if_neg h]
    exact Ev.now _
theorem toMatrix_ev (p c : Int) (l : List (List Int)) (hl : l.length ≤ 1048576) (hr : ∀ r ∈ l, r.length ≤ 1048576) : Ev (fun k => laws_toMatrix.f k p c l) (p, c, l) := by
  unfold laws_toMatrix.f
  exact Ev.bind (toInt64SS_ev l hl hr) (Ev.now _)
theorem eqMatrix_same (p c : Int) (l : List (List Int)) (hl : l.length ≤ 1048576) (hr : ∀ r ∈ l, r.length ≤ 1048576) : Ev (fun k => laws_eqMatrix.f k p c l p c l) true := by
  unfold laws_eqMatrix.f
  simp only [if_true]
  refine Ev.bind (eqInt64SS_same l hl hr) ?_
  simp only [if_true]
  exact Ev.now _

end Go.Proofs.Ytjpbemomocccaaa.P

namespace Go.Proofs.Ytjpbemomocccaaa.P
open Go.RowKit Go.Proofs.YtjpbemomocccaaaW.PrintWords Go.Proofs.YtjpbemomocccaaaW.PrintLast Go.Proofs.YtjpbemomocccaaaW.PrintMore
attribute [local go_sem] max2_int min2_int max_two min_two max_three min_three max_four min_four
set_option linter.unusedVariables false
set_option linter.unusedSimpArgs false

/-- What holds from some number of rounds on. -/
def From (P : Nat → Prop) : Prop := ∃ K, ∀ k, K ≤ k → P k
theorem From.and {P Q : Nat → Prop} (hp : From P) (hq : From Q) : From fun k => P k ∧ Q k := by
  obtain ⟨K, hK⟩ := hp
  obtain ⟨L, hL⟩ := hq
  exact ⟨max K L, fun k h => ⟨hK k (by omega), hL k (by omega)⟩⟩
theorem From.now {P : Nat → Prop} (h : From P) : ∃ k, P k := by
  obtain ⟨K, hK⟩ := h
  exact ⟨K, hK K (Nat.le_refl _)⟩
end Go.Proofs.Ytjpbemomocccaaa.P

namespace Go.Proofs.Ytjpbemomocccaaa.P
open Go.RowKit Go.Proofs.YtjpbemomocccaaaW.PrintWords Go.Proofs.YtjpbemomocccaaaW.PrintLast Go.Proofs.YtjpbemomocccaaaW.PrintMore
attribute [local go_sem] max2_int min2_int max_two min_two max_three min_three max_four min_four
set_option linter.unusedVariables false
set_option linter.unusedSimpArgs false

/-! ### laws_markScheme: function 44 (by hand) -/
end Go.Proofs.Ytjpbemomocccaaa.P

namespace Go.Proofs.Ytjpbemomocccaaa.P
open Go.RowKit Go.Proofs.YtjpbemomocccaaaW.PrintWords Go.Proofs.YtjpbemomocccaaaW.PrintLast Go.Proofs.YtjpbemomocccaaaW.PrintMore
attribute [local go_sem] max2_int min2_int max_two min_two max_three min_three max_four min_four
set_option linter.unusedVariables false
set_option linter.unusedSimpArgs false

/-! ### laws_heldScheme: function 45 -/
end Go.Proofs.Ytjpbemomocccaaa.P

namespace Go.Proofs.Ytjpbemomocccaaa.P
open Go.RowKit Go.Proofs.YtjpbemomocccaaaW.PrintWords Go.Proofs.YtjpbemomocccaaaW.PrintLast Go.Proofs.YtjpbemomocccaaaW.PrintMore
attribute [local go_sem] max2_int min2_int max_two min_two max_three min_three max_four min_four
set_option linter.unusedVariables false
set_option linter.unusedSimpArgs false

/-- The numbers from a on, n of them: what a mark leaves. -/
def upFrom (a : Int) (n : Nat) : List Int := (List.range n).map fun i : Nat => a + (i : Int)
theorem upFrom_length (a : Int) (n : Nat) : (upFrom a n).length = n := by simp [upFrom]
theorem upFrom_succ (a : Int) (n : Nat) : upFrom a (n + 1) = upFrom a n ++ [a + (n : Int)] := by simp [upFrom, List.range_succ]
/-- A loop that writes one place after another. -/
theorem markInt64S_ev (l : List Int) (a : Int) (ha : 0 ≤ a ∧ a ≤ 2147483648) (hl : l.length ≤ 4611686018427387904) : Ev (fun k => laws_markInt64S.f k l a) (a + (l.length : Int), upFrom a l.length) := by
  unfold laws_markInt64S.f
  have key : ∀ d i : Nat, i + d = l.length → Ev (fun k => laws_markInt64S.l0 k (upFrom a i ++ l.drop i) (a + (i : Int)) (i : Int)) (a + (l.length : Int), upFrom a l.length) := by
    intro d
    induction d with
    | zero =>
      intro i hi
      obtain rfl : i = l.length := by omega
      refine Ev.step (f := fun _ => some (a + (l.length : Int), upFrom a l.length)) (fun k => ?_) (Ev.now _)
      simp only [laws_markInt64S.l0]
      rw [if_neg (by simp [upFrom_length]), List.drop_length, List.append_nil]
    | succ d ih =>
      intro i hi
      have hlt : i < l.length := by omega
      refine Ev.step (fun k => ?_) (ih (i + 1) (by omega))
      simp only [laws_markInt64S.l0]
      rw [if_pos (by simp [upFrom_length]; omega), if_pos (by omega), wr (by omega) (by omega), wr (by omega) (by omega), Int.toNat_natCast, List.set_append_right _ _ (by rw [upFrom_length]; exact Nat.le_refl _), upFrom_length, Nat.sub_self, List.drop_eq_getElem_cons hlt, List.set_cons_zero, upFrom_succ, List.append_assoc]
      rw [show a + (i : Int) + 1 = a + ((i + 1 : Nat) : Int) by omega]
      rfl
  have := key l.length 0 (by omega)
  simpa [upFrom] using this
theorem heldInt64S_ev (a : Int) (n : Nat) (ha : 0 ≤ a ∧ a ≤ 2147483648) (hl : n ≤ 4611686018427387904) : Ev (fun k => laws_heldInt64S.f k (upFrom a n) a) (a + (n : Int)) := by
  unfold laws_heldInt64S.f
  have key : ∀ d i : Nat, i + d = n → Ev (fun k => laws_heldInt64S.l0 k (upFrom a n) (a + (i : Int)) (i : Int)) (a + (n : Int)) := by
    intro d
    induction d with
    | zero =>
      intro i hi
      obtain rfl : i = n := by omega
      refine Ev.step (f := fun _ => some (a + (i : Int))) (fun k => ?_) (Ev.now _)
      simp only [laws_heldInt64S.l0]
      rw [if_neg (by simp [upFrom_length])]
    | succ d ih =>
      intro i hi
      have hlt : i < (upFrom a n).length := by rw [upFrom_length]; omega
      refine Ev.step (fun k => ?_) (ih (i + 1) (by omega))
      simp only [laws_heldInt64S.l0]
      rw [if_pos (by simp [upFrom_length]; omega), if_pos (by omega), rd_nat _ i hlt, if_pos (by simp [upFrom]), wr (by omega) (by omega), wr (by omega) (by omega)]
      rw [show a + (i : Int) + 1 = a + ((i + 1 : Nat) : Int) by omega]
      rfl
  have := key n 0 (by omega)
  simpa using this
/-- How many values the first i rows hold. -/
def preLen (rows : List (List Int)) (i : Nat) : Nat := ((rows.map List.length).take i).sum
def allLen (rows : List (List Int)) : Nat := (rows.map List.length).sum
def upRow (a : Int) (rows : List (List Int)) (i : Nat) : List Int := upFrom (a + (preLen rows i : Int)) ((rows.map List.length).getD i 0)
/-- Rows as a mark leaves them. -/
def upRows (a : Int) (rows : List (List Int)) : List (List Int) := (List.range rows.length).map (upRow a rows)
theorem preLen_succ (rows : List (List Int)) (i : Nat) (h : i < rows.length) : preLen rows (i + 1) = preLen rows i + rows[i].length := by
  have := sum_take_succ (rows.map List.length) i (by simpa using h)
  rwa [List.getElem_map] at this
theorem preLen_le (rows : List (List Int)) (i : Nat) : preLen rows i ≤ allLen rows := sum_take_le _ _
theorem preLen_end (rows : List (List Int)) : preLen rows rows.length = allLen rows := by
  unfold preLen allLen
  rw [List.take_of_length_le (by simp)]
theorem upRows_length (a : Int) (rows : List (List Int)) : (upRows a rows).length = rows.length := by simp [upRows]
theorem upRow_eq (a : Int) (rows : List (List Int)) (i : Nat) (h : i < rows.length) : upRow a rows i = upFrom (a + (preLen rows i : Int)) rows[i].length := by
  unfold upRow
  rw [List.getD_eq_getElem?_getD, List.getElem?_map, List.getElem?_eq_getElem h]
  rfl
theorem markInt64SS_ev (rows : List (List Int)) (a : Int) (ha : 0 ≤ a ∧ a ≤ 1073741824) (hl : rows.length ≤ 1073741824) (hs : allLen rows ≤ 1073741824) : Ev (fun k => laws_markInt64SS.f k rows a) (a + (allLen rows : Int), upRows a rows) := by
  unfold laws_markInt64SS.f
  have key : ∀ d i : Nat, i + d = rows.length → Ev (fun k => laws_markInt64SS.l0 k ((List.range i).map (upRow a rows) ++ rows.drop i) (a + (preLen rows i : Int)) (i : Int)) (a + (allLen rows : Int), upRows a rows) := by
    intro d
    induction d with
    | zero =>
      intro i hi
      obtain rfl : i = rows.length := by omega
      refine Ev.step (f := fun _ => some (a + (allLen rows : Int), upRows a rows)) (fun k => ?_) (Ev.now _)
      simp only [laws_markInt64SS.l0]
      rw [if_neg (by simp), List.drop_length, List.append_nil, preLen_end]
      rfl
    | succ d ih =>
      intro i hi
      have hlt : i < rows.length := by omega
      have hp := preLen_succ rows i hlt
      have hp2 := preLen_le rows (i + 1)
      have hrow : rd_L1 ((List.range i).map (upRow a rows) ++ rows.drop i) (i : Int) = rows[i] := by
        rw [rdL_nat _ i (by simp; omega), List.getElem_append_right (by simp)]
        simp
      refine Ev.step (f := fun k => (laws_markInt64S.f k rows[i] (a + (preLen rows i : Int))).bind fun t => laws_markInt64SS.l0 k (((List.range i).map (upRow a rows) ++ rows.drop i).set i t.2) t.1 ((i + 1 : Nat) : Int)) (fun k => ?_) (Ev.bind (markInt64S_ev rows[i] _ (by omega) (by omega)) ?_)
      · simp only [laws_markInt64SS.l0]
        rw [if_pos (by simp; omega), if_pos (by omega), hrow, wr (by omega) (by omega), Int.toNat_natCast]
        rfl
      · have e : ((List.range i).map (upRow a rows) ++ rows.drop i).set i (upFrom (a + (preLen rows i : Int)) rows[i].length) = (List.range (i + 1)).map (upRow a rows) ++ rows.drop (i + 1) := by
          rw [List.set_append_right _ _ (by simp), List.length_map, List.length_range, Nat.sub_self, List.drop_eq_getElem_cons hlt, List.set_cons_zero, List.range_succ, List.map_append, List.append_assoc, ← upRow_eq a rows i hlt]
          rfl
        simp only [e]
        rw [show a + (preLen rows i : Int) + (rows[i].length : Int) = a + (preLen rows (i + 1) : Int) by omega]
        exact ih (i + 1) (by omega)
  have := key rows.length 0 (by omega)
  simpa [preLen] using this
theorem heldInt64SS_ev (rows : List (List Int)) (a : Int) (ha : 0 ≤ a ∧ a ≤ 1073741824) (hl : rows.length ≤ 1073741824) (hs : allLen rows ≤ 1073741824) : Ev (fun k => laws_heldInt64SS.f k (upRows a rows) a) (a + (allLen rows : Int)) := by
  unfold laws_heldInt64SS.f
  have key : ∀ d i : Nat, i + d = rows.length → Ev (fun k => laws_heldInt64SS.l0 k (upRows a rows) (a + (preLen rows i : Int)) (i : Int)) (a + (allLen rows : Int)) := by
    intro d
    induction d with
    | zero =>
      intro i hi
      obtain rfl : i = rows.length := by omega
      refine Ev.step (f := fun _ => some (a + (allLen rows : Int))) (fun k => ?_) (Ev.now _)
      simp only [laws_heldInt64SS.l0]
      rw [if_neg (by simp [upRows_length]), preLen_end]
    | succ d ih =>
      intro i hi
      have hlt : i < rows.length := by omega
      have hp := preLen_succ rows i hlt
      have hp2 := preLen_le rows (i + 1)
      have hlt' : i < (upRows a rows).length := by rw [upRows_length]; exact hlt
      have hrow : rd_L1 (upRows a rows) (i : Int) = upFrom (a + (preLen rows i : Int)) rows[i].length := by
        rw [rdL_nat _ i hlt', ← upRow_eq a rows i hlt]
        simp [upRows]
      refine Ev.step (f := fun k => (laws_heldInt64S.f k (upFrom (a + (preLen rows i : Int)) rows[i].length) (a + (preLen rows i : Int))).bind fun t => if t < 0 then some (-1) else laws_heldInt64SS.l0 k (upRows a rows) t ((i + 1 : Nat) : Int)) (fun k => ?_) (Ev.bind (heldInt64S_ev (a + (preLen rows i : Int)) rows[i].length (by omega) (by omega)) ?_)
      · simp only [laws_heldInt64SS.l0]
        rw [if_pos (by simp [upRows_length]; omega), if_pos (by omega), hrow, wr (by omega) (by omega)]
        rfl
      · simp only [if_neg (show ¬ (a + (preLen rows i : Int) + (rows[i].length : Int) < 0) by omega)]
        rw [show a + (preLen rows i : Int) + (rows[i].length : Int) = a + (preLen rows (i + 1) : Int) by omega]
        exact ih (i + 1) (by omega)
  have := key rows.length 0 (by omega)
  simpa [preLen] using this
theorem markMatrix_ev (p c : Int) (rows : List (List Int)) (a : Int) (ha : 0 ≤ a ∧ a ≤ 1073741824) (hl : rows.length ≤ 1073741824) (hs : allLen rows ≤ 1073741824) : Ev (fun k => laws_markMatrix.f k p c rows a) (a + (allLen rows : Int), upRows a rows) := by
  unfold laws_markMatrix.f
  exact markInt64SS_ev rows a ha hl hs
theorem heldMatrix_ev (p c : Int) (rows : List (List Int)) (a : Int) (ha : 0 ≤ a ∧ a ≤ 1073741824) (hl : rows.length ≤ 1073741824) (hs : allLen rows ≤ 1073741824) : Ev (fun k => laws_heldMatrix.f k p c (upRows a rows) a) (a + (allLen rows : Int)) := by
  unfold laws_heldMatrix.f
  refine Ev.bind (heldInt64SS_ev rows a ha hl hs) ?_
  simp only [if_neg (show ¬ (a + (allLen rows : Int) < 0) by omega)]
  exact Ev.now _
end Go.Proofs.Ytjpbemomocccaaa.P

namespace Go.Proofs.Ytjpbemomocccaaa.P
open Go.RowKit Go.Proofs.YtjpbemomocccaaaW.PrintWords Go.Proofs.YtjpbemomocccaaaW.PrintLast Go.Proofs.YtjpbemomocccaaaW.PrintMore
attribute [local go_sem] max2_int min2_int max_two min_two max_three min_three max_four min_four
set_option linter.unusedVariables false
set_option linter.unusedSimpArgs false

def grp (gs : List (List Int)) (i : Nat) : List Int := gs.getD i []
theorem grp_len {gs : List (List Int)} {m : Nat} (hr : ∀ r ∈ gs, r.length ≤ m) (i : Nat) : (grp gs i).length ≤ m := by
  unfold grp
  by_cases h : i < gs.length
  · rw [List.getD_eq_getElem?_getD, List.getElem?_eq_getElem h]; exact hr _ (List.getElem_mem h)
  · rw [List.getD_eq_getElem?_getD, List.getElem?_eq_none (by omega)]; exact Nat.zero_le _

end Go.Proofs.Ytjpbemomocccaaa.P

namespace Go.Proofs.Ytjpbemomocccaaa.P
open Go.RowKit Go.Proofs.YtjpbemomocccaaaW.PrintWords Go.Proofs.YtjpbemomocccaaaW.PrintLast Go.Proofs.YtjpbemomocccaaaW.PrintMore
attribute [local go_sem] max2_int min2_int max_two min_two max_three min_three max_four min_four
set_option linter.unusedVariables false
set_option linter.unusedSimpArgs false

/-- A row of a matrix: elements modulo p, as many as there are columns. -/
def rowB (p cols : Int) (r : List Int) : Bool := decide ((r.length : Int) = cols) && elemsB p r
def validMB (p cols : Int) (rows : List (List Int)) : Bool := primeB p && (decide (0 ≤ cols ∧ cols ≤ 12) && (decide (rows.length ≤ 20) && rows.all (rowB p cols)))
theorem spec_l03Row_ev (p cols : Int) (r : List Int) (hp : -1000 ≤ p ∧ p ≤ 1000) (hl : r.length ≤ 4611686018427387904) : Ev (fun k => spec_l03Row.f k p cols r) (rowB p cols r) := by
  unfold spec_l03Row.f
  have h := scan_ev (l := fun k i => spec_l03Row.l0 k p cols r i) (n := r.length) (q := fun i => decide (0 ≤ rd r i ∧ rd r i ≤ p - 1)) (fin := decide ((r.length : Int) = cols)) (stop := false)
    (fun i hi hq t ht => by
      refine Ev.step (fun k => ?_) ht
      simp only [spec_l03Row.l0]
      rw [if_pos (by omega), if_pos (by omega), wr (x := p - 1) (by omega) (by omega), spec_l00In_eq, wr (x := (i : Int) + 1) (by omega) (by omega)]
      simp only [Option.bind_some]
      rw [if_pos hq]
      rfl)
    (fun i hi hq => by
      refine Ev.step (f := fun _ => some false) (fun k => ?_) (Ev.now _)
      simp only [spec_l03Row.l0]
      rw [if_pos (by omega), if_pos (by omega), wr (x := p - 1) (by omega) (by omega), spec_l00In_eq]
      simp only [Option.bind_some]
      rw [if_neg (by rw [hq]; decide)])
    (by
      refine Ev.step (f := fun _ => some ((r.length : Int) == cols)) (fun k => ?_) ?_
      · simp only [spec_l03Row.l0]
        rw [if_neg (by omega)]
      · rw [show ((r.length : Int) == cols) = decide ((r.length : Int) = cols) from by by_cases e : (r.length : Int) = cols <;> simp [e]]
        exact Ev.now _)
  rw [range_all r (fun a => decide (0 ≤ a ∧ a ≤ p - 1)) _ (fun i hi => by simp only [rd_nat r i hi])] at h
  rw [show rowB p cols r = (if (r.all fun a => decide (0 ≤ a ∧ a ≤ p - 1)) then decide ((r.length : Int) = cols) else false) from by
    unfold rowB elemsB
    cases (r.all fun a => decide (0 ≤ a ∧ a ≤ p - 1)) <;> simp]
  exact h
theorem spec_l03Ok_ev (p cols : Int) (rows : List (List Int)) (hl : rows.length ≤ 4611686018427387904) (hr : ∀ r ∈ rows, r.length ≤ 4611686018427387904) : Ev (fun k => spec_l03Ok.f k p cols rows) (validMB p cols rows) := by
  unfold spec_l03Ok.f validMB
  refine Ev.bind (spec_IsPrime_ev p) ?_
  have stop : Ev (fun k => spec_l03Ok.j0 k true p cols rows) false :=
    Ev.step (f := fun _ => some false) (fun k => by simp only [spec_l03Ok.j0, if_true]) (Ev.now _)
  cases hp : primeB p with
  | false => exact stop
  | true =>
    have hpr := primeB_range hp
    simp only [if_true, spec_l00In_eq, Option.bind_some, Bool.true_and]
    cases hc : decide (0 ≤ cols ∧ cols ≤ 12) with
    | false => exact stop
    | true =>
      simp only [if_true, Bool.true_and]
      by_cases h20 : (rows.length : Int) > 20
      · rw [decide_eq_true h20, decide_eq_false (show ¬ rows.length ≤ 20 by omega), Bool.false_and]
        exact stop
      · rw [decide_eq_false h20, decide_eq_true (show rows.length ≤ 20 by omega), Bool.true_and]
        refine Ev.step (f := fun k => spec_l03Ok.l0 k 0 p cols rows) (fun k => by simp only [spec_l03Ok.j0]; rw [if_neg (by decide)]) ?_
        have h := scan_ev (l := fun k i => spec_l03Ok.l0 k i p cols rows) (n := rows.length) (q := fun i => rowB p cols (rd_L1 rows i)) (fin := true) (stop := false)
          (fun i hi hq t ht => by
            refine Ev.step (f := fun k => (spec_l03Row.f k p cols (rd_L1 rows i)).bind fun t => if t = true then spec_l03Ok.l0 k ((i + 1 : Nat) : Int) p cols rows else some false) (fun k => ?_) (Ev.bind (spec_l03Row_ev p cols _ (by omega) (by rw [rdL_nat rows i hi]; exact hr _ (List.getElem_mem hi))) ?_)
            · simp only [spec_l03Ok.l0]
              rw [if_pos (by omega), if_pos (by omega), wr (by omega) (by omega)]
              rfl
            · simp only [hq, if_true]
              exact ht)
          (fun i hi hq => by
            refine Ev.step (f := fun k => (spec_l03Row.f k p cols (rd_L1 rows i)).bind fun t => if t = true then spec_l03Ok.l0 k ((i + 1 : Nat) : Int) p cols rows else some false) (fun k => ?_) (Ev.bind (spec_l03Row_ev p cols _ (by omega) (by rw [rdL_nat rows i hi]; exact hr _ (List.getElem_mem hi))) ?_)
            · simp only [spec_l03Ok.l0]
              rw [if_pos (by omega), if_pos (by omega), wr (by omega) (by omega)]
              rfl
            · simp only [hq]
              exact Ev.now _)
          (Ev.step (f := fun _ => some true) (fun k => by simp only [spec_l03Ok.l0]; rw [if_neg (by omega)]) (Ev.now _))
        rw [range_all rows (rowB p cols) _ (fun i hi => by simp only [rdL_nat rows i hi])] at h
        rw [show rows.all (rowB p cols) = (if rows.all (rowB p cols) then true else false) from by cases rows.all (rowB p cols) <;> rfl]
        exact h
theorem idxR_ev (p : Nat → List Int → Option Bool) (q : List Int → Bool) (xs : List (List Int)) (hlen : xs.length ≤ 4611686018427387904) (hp : ∀ x ∈ xs, Ev (fun k => p k x) (q x)) (hm : ∀ x k, LeO (p k x) (p (k + 1) x)) :
    ∀ d i : Nat, i + d = xs.length → ∃ r : Int, Ev (fun k => idxR.l0 k (p k) xs (i : Int)) r ∧ decide (0 ≤ r) = (xs.drop i).any q := by
  have up : ∀ {r : Int} {i : Int}, Ev (fun k => idxR.l0 k (p k) xs i) r → Ev (fun k => idxR.l0 k (p (k + 1)) xs i) r := by
    rintro r i ⟨K, h⟩
    exact ⟨K, fun k hk => idxR.mono_p _ _ _ _ _ (fun x => hm x k) r (h k hk)⟩
  have one : ∀ x ∈ xs, Ev (fun k => p (k + 1) x) (q x) := fun x hx => by
    obtain ⟨K, h⟩ := hp x hx
    exact ⟨K, fun k hk => h (k + 1) (by omega)⟩
  intro d
  induction d with
  | zero =>
    intro i hi
    refine ⟨-1, Ev.step (f := fun _ => some (-1)) (fun k => ?_) (Ev.now _), ?_⟩
    · simp only [idxR.l0]
      rw [if_neg (by omega)]
    · rw [List.drop_eq_nil_of_le (by omega)]; rfl
  | succ d ih =>
    intro i hi
    have hlt : i < xs.length := by omega
    obtain ⟨r, hr, hd⟩ := ih (i + 1) (by omega)
    have hx := one _ (List.getElem_mem hlt)
    rw [List.drop_eq_getElem_cons hlt, List.any_cons]
    have step : ∀ {r : Int}, Ev (fun k => (p (k + 1) xs[i]).bind fun t => if t = true then some (i : Int) else idxR.l0 k (p (k + 1)) xs ((i + 1 : Nat) : Int)) r → Ev (fun k => idxR.l0 k (p k) xs (i : Int)) r := fun h => by
      refine Ev.step (g := fun k => idxR.l0 k (p k) xs (i : Int)) (fun k => ?_) h
      simp only [idxR.l0]
      rw [if_pos (by omega), if_pos (by omega), rdL_nat xs i hlt, wr (by omega) (by omega)]
      rfl
    cases hq : q xs[i] with
    | true =>
      refine ⟨i, step (Ev.bind hx ?_), ?_⟩
      · simp only [hq, if_true]; exact Ev.now _
      · rw [Bool.true_or]; exact decide_eq_true (by omega)
    | false =>
      refine ⟨r, step (Ev.bind hx ?_), ?_⟩
      · simp only [hq]; exact up hr
      · rw [Bool.false_or]; exact hd
theorem hasR_ev (p : Nat → List Int → Option Bool) (q : List Int → Bool) (xs : List (List Int)) (hlen : xs.length ≤ 4611686018427387904) (hp : ∀ x ∈ xs, Ev (fun k => p k x) (q x)) (hm : ∀ x k, LeO (p k x) (p (k + 1) x)) : Ev (fun k => hasR.f k (p k) xs) (xs.any q) := by
  obtain ⟨r, hr, hd⟩ := idxR_ev p q xs hlen hp hm xs.length 0 (by omega)
  rw [List.drop_zero] at hd
  rw [← hd]
  exact Ev.bind hr (Ev.now _)
theorem not_any_all {α : Type} (l : List α) (q : α → Bool) : (!(l.any fun a => !q a)) = l.all q := by
  induction l with
  | nil => rfl
  | cons a l ih => rw [List.any_cons, List.all_cons, ← ih, Bool.not_or, Bool.not_not]
theorem impl_ValidMatrix_ev (p cols : Int) (rows : List (List Int)) (hl : rows.length ≤ 4611686018427387904) (hr : ∀ r ∈ rows, r.length ≤ 4611686018427387904) : Ev (fun k => impl_ValidMatrix.f k p cols rows) (validMB p cols rows) := by
  unfold impl_ValidMatrix.f validMB
  refine Ev.bind (impl_IsPrime_ev p) ?_
  cases hp : primeB p with
  | false => exact Ev.now _
  | true =>
    simp only [if_true, impl_within_eq, Option.bind_some, Bool.true_and]
    cases hc : decide (0 ≤ cols ∧ cols ≤ 12) with
    | false => exact Ev.now _
    | true =>
      simp only [if_true, Bool.true_and]
      by_cases h20 : (rows.length : Int) ≤ 20
      · rw [decide_eq_true (show rows.length ≤ 20 by omega), Bool.true_and, ← not_any_all]
        simp only [if_pos h20]
        refine Ev.bind (hasR_ev (fun k => ValidMatrix_p k p cols) (fun r => !rowB p cols r) rows hl (fun r hrm => ?_) (fun x k => ValidMatrix_p.mono _ _ _ _)) (Ev.now _)
        unfold ValidMatrix_p rowB
        by_cases e : (r.length : Int) = cols
        · simp only [if_pos e, decide_eq_true e, Bool.true_and]
          have := impl_areElements_ev p r (hr r hrm)
          rw [hp, Bool.true_and] at this
          exact Ev.bind this (Ev.now _)
        · simp only [if_neg e, decide_eq_false e, Bool.false_and]
          exact Ev.now _
      · rw [decide_eq_false (show ¬ rows.length ≤ 20 by omega), Bool.false_and]
        simp only [if_neg h20]
        exact Ev.now _

end Go.Proofs.Ytjpbemomocccaaa.P

namespace Go.Proofs.Ytjpbemomocccaaa.P
open Go.RowKit Go.Proofs.YtjpbemomocccaaaW.PrintWords Go.Proofs.YtjpbemomocccaaaW.PrintLast Go.Proofs.YtjpbemomocccaaaW.PrintMore
attribute [local go_sem] max2_int min2_int max_two min_two max_three min_three max_four min_four
set_option linter.unusedVariables false
set_option linter.unusedSimpArgs false

/-! ### spec_l03Turned: function 100 -/
end Go.Proofs.Ytjpbemomocccaaa.P

namespace Go.Proofs.Ytjpbemomocccaaa.P
open Go.RowKit Go.Proofs.YtjpbemomocccaaaW.PrintWords Go.Proofs.YtjpbemomocccaaaW.PrintLast Go.Proofs.YtjpbemomocccaaaW.PrintMore
attribute [local go_sem] max2_int min2_int max_two min_two max_three min_three max_four min_four
set_option linter.unusedVariables false
set_option linter.unusedSimpArgs false

/-- A loop that puts one value after another behind a list. -/
theorem build_ev {α ρ : Type} {l : Nat → Int → List α → Option ρ} (n : Nat) (f : Nat → α) {fin : ρ}
    (hgo : ∀ (i : Nat) (acc : List α), i < n → acc.length = i → ∀ r, Ev (fun k => l k ((i + 1 : Nat) : Int) (acc ++ [f i])) r → Ev (fun k => l k (i : Int) acc) r)
    (hend : Ev (fun k => l k (n : Int) ((List.range n).map f)) fin) : Ev (fun k => l k 0 []) fin := by
  have key : ∀ d i : Nat, i + d = n → Ev (fun k => l k (i : Int) ((List.range i).map f)) fin := by
    intro d
    induction d with
    | zero =>
      intro i hi
      obtain rfl : i = n := by omega
      exact hend
    | succ d ih =>
      intro i hi
      refine hgo i _ (by omega) (by simp) _ ?_
      have := ih (i + 1) (by omega)
      rwa [List.range_succ, List.map_append] at this
  exact key n 0 (by omega)
theorem elemsB_get {p : Int} {l : List Int} (h : elemsB p l = true) (i : Nat) (hi : i < l.length) : 0 ≤ l[i] ∧ l[i] ≤ p - 1 := by
  unfold elemsB at h
  exact of_decide_eq_true (List.all_eq_true.mp h _ (List.getElem_mem hi))
end Go.Proofs.Ytjpbemomocccaaa.P

namespace Go.Proofs.Ytjpbemomocccaaa.P
open Go.RowKit Go.Proofs.YtjpbemomocccaaaW.PrintWords Go.Proofs.YtjpbemomocccaaaW.PrintLast Go.Proofs.YtjpbemomocccaaaW.PrintMore
attribute [local go_sem] max2_int min2_int max_two min_two max_three min_three max_four min_four
set_option linter.unusedVariables false
set_option linter.unusedSimpArgs false

theorem validMB_parts {p cols : Int} {rows : List (List Int)} (h : validMB p cols rows = true) : (2 ≤ p ∧ p ≤ 31) ∧ (0 ≤ cols ∧ cols ≤ 12) ∧ rows.length ≤ 20 ∧ (∀ i, i < rows.length → ((grp rows i).length : Int) = cols ∧ elemsB p (grp rows i) = true) := by
  unfold validMB at h
  simp only [Bool.and_eq_true, decide_eq_true_eq] at h
  refine ⟨primeB_range h.1, h.2.1, h.2.2.1, fun i hi => ?_⟩
  have := List.all_eq_true.mp h.2.2.2 rows[i] (List.getElem_mem hi)
  unfold rowB at this
  simp only [Bool.and_eq_true, decide_eq_true_eq] at this
  rw [show grp rows i = rows[i] from by simp [grp, hi]]
  exact this
def toldB (p cols : Int) (rows : List (List Int)) : Int × Int × List (List Int) × Int := if validMB p cols rows then (p, cols, rows, 0) else (0, 0, [], 3)
theorem spec_l03Told_ev (p cols : Int) (rows : List (List Int)) (hl : rows.length ≤ 4611686018427387904) (hr : ∀ r ∈ rows, r.length ≤ 4611686018427387904) : Ev (fun k => spec_l03Told.f k p cols rows) (toldB p cols rows) := by
  unfold spec_l03Told.f toldB
  refine Ev.bind (spec_l03Ok_ev p cols rows hl hr) ?_
  cases validMB p cols rows <;> exact Ev.now _
theorem impl_matrixOrLimit_ev (p cols : Int) (rows : List (List Int)) (hl : rows.length ≤ 4611686018427387904) (hr : ∀ r ∈ rows, r.length ≤ 4611686018427387904) : Ev (fun k => impl_matrixOrLimit.f k p cols rows) (toldB p cols rows) := by
  unfold impl_matrixOrLimit.f toldB
  refine Ev.bind (impl_ValidMatrix_ev p cols rows hl hr) ?_
  cases validMB p cols rows <;> exact Ev.now _
theorem sum_le_mul (l : List Nat) (m : Nat) (h : ∀ x ∈ l, x ≤ m) : l.sum ≤ l.length * m := by
  induction l with
  | nil => simp
  | cons a l ih =>
    have := ih (fun x hx => h x (List.mem_cons_of_mem _ hx))
    have := h a (List.mem_cons_self ..)
    rw [List.sum_cons, List.length_cons, Nat.succ_mul]
    omega
theorem validMB_small {p cols : Int} {rows : List (List Int)} (h : validMB p cols rows = true) : rows.length ≤ 20 ∧ (∀ r ∈ rows, r.length ≤ 12) ∧ allLen rows ≤ 240 := by
  obtain ⟨_, h2, h3, h4⟩ := validMB_parts h
  have hr : ∀ r ∈ rows, r.length ≤ 12 := fun r hr => by
    obtain ⟨i, hi, rfl⟩ := List.getElem_of_mem hr
    have := (h4 i hi).1
    rw [show grp rows i = rows[i] from by simp [grp, hi]] at this
    omega
  refine ⟨h3, hr, ?_⟩
  unfold allLen
  have := sum_le_mul (rows.map List.length) 12 (fun x hx => by obtain ⟨r, hr', rfl⟩ := List.mem_map.mp hx; exact hr r hr')
  rw [List.length_map] at this
  omega
theorem toldB_size (p cols : Int) (rows : List (List Int)) : ∃ a b c d, toldB p cols rows = (a, b, c, d) ∧ c.length ≤ 20 ∧ (∀ r ∈ c, r.length ≤ 12) ∧ allLen c ≤ 240 := by
  unfold toldB
  cases h : validMB p cols rows with
  | false => exact ⟨0, 0, [], 3, rfl, by simp, by simp, by simp [allLen]⟩
  | true => exact ⟨_, _, _, _, rfl, validMB_small h⟩

end Go.Proofs.Ytjpbemomocccaaa.P

namespace Go.Proofs.Ytjpbemomocccaaa.P
open Go.RowKit Go.Proofs.YtjpbemomocccaaaW.PrintWords Go.Proofs.YtjpbemomocccaaaW.PrintLast Go.Proofs.YtjpbemomocccaaaW.PrintMore
attribute [local go_sem] max2_int min2_int max_two min_two max_three min_three max_four min_four
set_option linter.unusedVariables false
set_option linter.unusedSimpArgs false

theorem rd_cast (xs : List Int) (i : Nat) : rd xs (i : Int) = xs.getD i 0 := by simp [rd]
theorem rdL_cast (gs : List (List Int)) (i : Nat) : rd_L1 gs (i : Int) = grp gs i := by simp [rd_L1, grp]
theorem getD_set {α : Type} (l : List α) (i j : Nat) (v d : α) (hi : i < l.length) : (l.set i v).getD j d = if j = i then v else l.getD j d := by
  rw [List.getD_eq_getElem?_getD, List.getD_eq_getElem?_getD, List.getElem?_set]
  by_cases h : j = i
  · subst h; rw [if_pos rfl, if_pos rfl, if_pos hi]; rfl
  · rw [if_neg (Ne.symm h), if_neg h]
theorem getD_map {α : Type} (n : Nat) (f : Nat → α) (j : Nat) (d : α) (hj : j < n) : ((List.range n).map f).getD j d = f j := by
  rw [List.getD_eq_getElem?_getD, List.getElem?_map, List.getElem?_range hj]; rfl
theorem list_of_getD {α : Type} (l : List α) (d : α) : (List.range l.length).map (fun j => l.getD j d) = l := by
  refine List.ext_getElem (by simp) fun i h1 h2 => ?_
  have : i < l.length := h2
  simp [List.getD_eq_getElem?_getD, this]
theorem list_eq_getD {α : Type} (d : α) {a b : List α} (hl : a.length = b.length) (h : ∀ i, i < a.length → a.getD i d = b.getD i d) : a = b := by
  refine List.ext_getElem hl fun i h1 h2 => ?_
  have := h i h1
  rwa [List.getD_eq_getElem?_getD, List.getD_eq_getElem?_getD, List.getElem?_eq_getElem h1, List.getElem?_eq_getElem h2] at this
/-- A loop that sets one place of a list after another. -/
theorem setloop_ev {α : Type} (d : α) {l : Nat → Int → List α → Option (List α)} (ys : List α) (f : Nat → α → α)
    (hgo : ∀ (i : Nat) (xs : List α), i < ys.length → xs.length = ys.length → (∀ j, j < ys.length → xs.getD j d = if j < i then f j (ys.getD j d) else ys.getD j d) → ∀ r, Ev (fun k => l k ((i + 1 : Nat) : Int) (xs.set i (f i (ys.getD i d)))) r → Ev (fun k => l k (i : Int) xs) r)
    (hend : ∀ xs, xs.length = ys.length → Ev (fun k => l k (ys.length : Int) xs) xs) : Ev (fun k => l k 0 ys) ((List.range ys.length).map fun j => f j (ys.getD j d)) := by
  have key : ∀ m i : Nat, i + m = ys.length → ∀ xs : List α, xs.length = ys.length → (∀ j, j < ys.length → xs.getD j d = if j < i then f j (ys.getD j d) else ys.getD j d) → Ev (fun k => l k (i : Int) xs) ((List.range ys.length).map fun j => f j (ys.getD j d)) := by
    intro m
    induction m with
    | zero =>
      intro i hi xs hx hj
      obtain rfl : i = ys.length := by omega
      have e : xs = (List.range ys.length).map fun j => f j (ys.getD j d) := by
        refine list_eq_getD d (by simp [hx]) fun j hjx => ?_
        rw [getD_map _ _ _ _ (by omega), hj j (by omega), if_pos (by omega)]
      have := hend xs hx
      rw [← e]
      exact this
    | succ m ih =>
      intro i hi xs hx hj
      refine hgo i xs (by omega) hx hj _ (ih (i + 1) (by omega) _ (by rw [List.length_set]; exact hx) fun j hjl => ?_)
      rw [getD_set _ _ _ _ _ (by omega)]
      by_cases h1 : j = i
      · subst h1; rw [if_pos rfl, if_pos (by omega)]
      · rw [if_neg h1, hj j hjl]
        by_cases h2 : j < i
        · rw [if_pos h2, if_pos (by omega)]
        · rw [if_neg h2, if_neg (by omega)]
  exact key ys.length 0 (by omega) ys rfl fun j _ => by rw [if_neg (by omega)]
/-- A list of C elements modulo p. -/
def RowP (p : Int) (C : Nat) (r : List Int) : Prop := r.length = C ∧ ∀ j, 0 ≤ r.getD j 0 ∧ r.getD j 0 ≤ p - 1
def MatP (p : Int) (C : Nat) (rows : List (List Int)) : Prop := ∀ i, i < rows.length → RowP p C (grp rows i)
theorem mod_range {p : Int} (hp : 2 ≤ p) (x : Int) : 0 ≤ x % p ∧ x % p ≤ p - 1 := ⟨Int.emod_nonneg _ (by omega), by have := Int.emod_lt_of_pos x (b := p) (by omega); omega⟩
theorem RowP_map {p : Int} (hp : 2 ≤ p) (C : Nat) (f : Nat → Int) (hf : ∀ j, j < C → 0 ≤ f j ∧ f j ≤ p - 1) : RowP p C ((List.range C).map f) := by
  refine ⟨by simp, fun j => ?_⟩
  by_cases h : j < C
  · rw [getD_map _ _ _ _ h]; exact hf j h
  · rw [List.getD_eq_getElem?_getD, List.getElem?_eq_none (by simp; omega)]
    show 0 ≤ (0 : Int) ∧ (0 : Int) ≤ p - 1
    omega
def timesB (p by_ : Int) (r : List Int) : List Int := (List.range r.length).map fun j => r.getD j 0 * by_ % p
def addB (p : Int) (u row : List Int) (t : Int) : List Int := (List.range u.length).map fun j => (u.getD j 0 + row.getD j 0 * t) % p
theorem timesB_row {p by_ : Int} {C : Nat} {r : List Int} (hp : 2 ≤ p) (h : RowP p C r) : RowP p C (timesB p by_ r) := by
  unfold timesB; rw [h.1]; exact RowP_map hp C _ fun j _ => mod_range hp _
theorem addB_row {p t : Int} {C : Nat} {r s : List Int} (hp : 2 ≤ p) (h : RowP p C r) : RowP p C (addB p r s t) := by
  unfold addB; rw [h.1]; exact RowP_map hp C _ fun j _ => mod_range hp _
theorem mul_le31 {p a b : Int} (hp : 2 ≤ p ∧ p ≤ 31) (ha : 0 ≤ a ∧ a ≤ p - 1) (hb : 0 ≤ b ∧ b ≤ p) : 0 ≤ a * b ∧ a * b ≤ 1000 := by
  refine ⟨Int.mul_nonneg ha.1 hb.1, ?_⟩
  have h1 : a * b ≤ 30 * b := Int.mul_le_mul_of_nonneg_right (by omega) hb.1
  omega
theorem impl_scaled_ev {p by_ : Int} {C : Nat} {r : List Int} (hp : 2 ≤ p ∧ p ≤ 31) (hC : C ≤ 1000) (h : RowP p C r) (hb : 0 ≤ by_ ∧ by_ ≤ p) : Ev (fun k => impl_scaled.f k p r by_) (timesB p by_ r) := by
  unfold impl_scaled.f timesB
  refine setloop_ev (0 : Int) (l := fun k i xs => impl_scaled.l0 k p xs by_ (r.length : Int) i) r (fun _ x => x * by_ % p) (fun i xs hi hx hj t ht => ?_) (fun xs hx => ?_)
  · have hl := h.1
    refine Ev.step (fun k => ?_) ht
    have hm := mul_le31 hp (h.2 i) hb
    have e := hj i hi
    rw [if_neg (by omega)] at e
    simp only [impl_scaled.l0]
    rw [if_pos (by omega), if_pos (by omega), if_pos (by omega), if_neg (by omega), rd_cast, e, wr (by omega) (by omega), Int.tmod_eq_emod_of_nonneg hm.1, wr (by omega) (by omega)]
    rfl
  · refine Ev.step (f := fun _ => some xs) (fun k => ?_) (Ev.now _)
    simp only [impl_scaled.l0]
    rw [if_neg (by omega)]
theorem spec_l03Times_ev {p by_ : Int} {C : Nat} {r : List Int} (hp : 2 ≤ p ∧ p ≤ 31) (hC : C ≤ 1000) (h : RowP p C r) (hb : 0 ≤ by_ ∧ by_ ≤ p) : Ev (fun k => spec_l03Times.f k p r by_) (timesB p by_ r) := by
  unfold spec_l03Times.f timesB
  refine setloop_ev (0 : Int) (l := fun k i xs => spec_l03Times.l0 k p xs by_ i) r (fun _ x => x * by_ % p) (fun i xs hi hx hj t ht => ?_) (fun xs hx => ?_)
  · have hl := h.1
    refine Ev.step (fun k => ?_) ht
    have hm := mul_le31 hp (h.2 i) hb
    have e := hj i hi
    rw [if_neg (by omega)] at e
    simp only [spec_l03Times.l0]
    rw [if_pos (by omega), if_pos (by omega), if_neg (by omega), rd_cast, e, wr (by omega) (by omega), Int.tmod_eq_emod_of_nonneg hm.1, wr (by omega) (by omega)]
    rfl
  · refine Ev.step (f := fun _ => some xs) (fun k => ?_) (Ev.now _)
    simp only [spec_l03Times.l0]
    rw [if_neg (by omega)]
theorem impl_takeOff_ev {p t : Int} {C : Nat} {r s : List Int} (hp : 2 ≤ p ∧ p ≤ 31) (hC : C ≤ 1000) (h : RowP p C r) (hs : RowP p C s) (ht : 0 ≤ t ∧ t ≤ p) : Ev (fun k => impl_takeOff.f k p r s t) (addB p r s (p - t)) := by
  unfold impl_takeOff.f addB
  have hl := h.1
  have hsl := hs.1
  refine setloop_ev (0 : Int) (l := fun k i xs => impl_takeOff.l0 k p xs t s (s.length : Int) i) r (fun j x => (x + s.getD j 0 * (p - t)) % p) (fun i xs hi hx hj q hq => ?_) (fun xs hx => ?_)
  · refine Ev.step (fun k => ?_) hq
    have hm := mul_le31 hp (hs.2 i) (b := p - t) (by omega)
    have hr := h.2 i
    have e := hj i hi
    rw [if_neg (by omega)] at e
    simp only [impl_takeOff.l0]
    rw [if_pos (by omega), if_pos (by omega), if_pos (by omega), if_pos (by omega), if_neg (by omega), rd_cast, rd_cast, e, wr (x := p - t) (by omega) (by omega), Int.mul_comm (p - t), wr (x := s.getD i 0 * (p - t)) (by omega) (by omega), wr (x := r.getD i 0 + _) (by omega) (by omega), Int.tmod_eq_emod_of_nonneg (by omega), wr (by omega) (by omega)]
    rfl
  · refine Ev.step (f := fun _ => some xs) (fun k => ?_) (Ev.now _)
    simp only [impl_takeOff.l0]
    rw [if_neg (by omega)]
theorem spec_l03Add_ev {p t : Int} {C : Nat} {r s : List Int} (hp : 2 ≤ p ∧ p ≤ 31) (hC : C ≤ 1000) (h : RowP p C r) (hs : RowP p C s) (ht : 0 ≤ t ∧ t ≤ p) : Ev (fun k => spec_l03Add.f k p r s t) (addB p r s t) := by
  unfold spec_l03Add.f addB
  have hl := h.1
  have hsl := hs.1
  refine setloop_ev (0 : Int) (l := fun k i xs => spec_l03Add.l0 k p xs s t i) r (fun j x => (x + s.getD j 0 * t) % p) (fun i xs hi hx hj q hq => ?_) (fun xs hx => ?_)
  · refine Ev.step (fun k => ?_) hq
    have hm := mul_le31 hp (hs.2 i) (b := t) (by omega)
    have hr := h.2 i
    have e := hj i hi
    rw [if_neg (by omega)] at e
    simp only [spec_l03Add.l0]
    rw [if_pos (by omega), if_pos (by omega), if_pos (by omega), if_neg (by omega), rd_cast, rd_cast, e, wr (x := s.getD i 0 * t) (by omega) (by omega), wr (x := r.getD i 0 + _) (by omega) (by omega), Int.tmod_eq_emod_of_nonneg (by omega), wr (by omega) (by omega)]
    rfl
  · refine Ev.step (f := fun _ => some xs) (fun k => ?_) (Ev.now _)
    simp only [spec_l03Add.l0]
    rw [if_neg (by omega)]
/-- The first row from a on whose element c is not 0; the number of rows where there is none. -/
def findN (rows : List (List Int)) (c a : Nat) : Nat := a + (rows.drop a).findIdx (fun r => r.getD c 0 != 0)
theorem findN_here {rows : List (List Int)} {c a : Nat} (ha : a < rows.length) (h : (grp rows a).getD c 0 ≠ 0) : findN rows c a = a := by
  unfold findN
  rw [List.drop_eq_getElem_cons ha, List.findIdx_cons]
  have : (rows[a].getD c 0 != 0) = true := by rw [show rows[a] = grp rows a from by simp [grp, ha]]; exact bne_iff_ne.mpr h
  rw [this]; rfl
theorem findN_next {rows : List (List Int)} {c a : Nat} (ha : a < rows.length) (h : (grp rows a).getD c 0 = 0) : findN rows c a = findN rows c (a + 1) := by
  unfold findN
  rw [List.drop_eq_getElem_cons ha, List.findIdx_cons]
  have : (rows[a].getD c 0 != 0) = false := by rw [show rows[a] = grp rows a from by simp [grp, ha], h]; rfl
  rw [this]
  simp only [cond_false]
  omega
theorem findN_end {rows : List (List Int)} {c a : Nat} (ha : rows.length ≤ a) : findN rows c a = a := by
  unfold findN
  rw [List.drop_eq_nil_of_le ha]; rfl
theorem findN_le {rows : List (List Int)} {c : Nat} : ∀ (d a : Nat), a + d = rows.length → a ≤ findN rows c a ∧ findN rows c a ≤ rows.length ∧ (findN rows c a < rows.length → (grp rows (findN rows c a)).getD c 0 ≠ 0) ∧ ∀ j, a ≤ j → j < findN rows c a → (grp rows j).getD c 0 = 0 := by
  intro d
  induction d with
  | zero =>
    intro a ha
    rw [findN_end (by omega)]
    exact ⟨Nat.le_refl _, by omega, fun h => by omega, fun j h1 h2 => by omega⟩
  | succ d ih =>
    intro a ha
    by_cases h : (grp rows a).getD c 0 = 0
    · rw [findN_next (by omega) h]
      obtain ⟨h1, h2, h3, h4⟩ := ih (a + 1) (by omega)
      refine ⟨by omega, h2, h3, fun j hj hj2 => ?_⟩
      by_cases e : j = a
      · rw [e]; exact h
      · exact h4 j (by omega) hj2
    · rw [findN_here (by omega) h]
      exact ⟨Nat.le_refl _, by omega, fun _ => h, fun j h1 h2 => by omega⟩
theorem findB_ev {p : Int} {C c : Nat} {rows : List (List Int)} (hM : MatP p C rows) (hc : c < C) (hl : rows.length ≤ 1000) : ∀ (d a : Nat), a + d = rows.length → Ev (fun k => findB k rows (c : Int) (a : Int)) ((findN rows c a : Nat) : Int) := by
  intro d
  induction d with
  | zero =>
    intro a ha
    rw [findN_end (by omega)]
    refine Ev.step (f := fun _ => some (a : Int)) (fun k => ?_) (Ev.now _)
    simp only [findB]
    rw [if_neg (by omega)]
  | succ d ih =>
    intro a ha
    have hr := (hM a (by omega)).1
    by_cases h : (grp rows a).getD c 0 = 0
    · rw [findN_next (by omega) h]
      refine Ev.step (fun k => ?_) (ih (a + 1) (by omega))
      simp only [findB]
      rw [if_pos (by omega), if_pos (by omega), if_pos (by omega), rdL_cast, if_pos (by omega), rd_cast, if_pos h, wr (by omega) (by omega)]
      rfl
    · rw [findN_here (by omega) h]
      refine Ev.step (f := fun _ => some (a : Int)) (fun k => ?_) (Ev.now _)
      simp only [findB]
      rw [if_pos (by omega), if_pos (by omega), if_pos (by omega), rdL_cast, if_pos (by omega), rd_cast, if_neg h]
theorem swapB_grp {rows : List (List Int)} {n a : Nat} (hn : n < rows.length) (ha : a < rows.length) (j : Nat) : grp (swapB rows n a) j = if j = a then grp rows n else if j = n then grp rows a else grp rows j := by
  unfold swapB grp
  rw [getD_set _ _ _ _ _ (by rw [List.length_set]; exact ha), getD_set _ _ _ _ _ hn, rdL_cast, rdL_cast]
  rfl
theorem swapB_length (rows : List (List Int)) (n a : Nat) : (swapB rows n a).length = rows.length := by simp [swapB]
theorem swapB_comm {rows : List (List Int)} {n a : Nat} (hn : n < rows.length) (ha : a < rows.length) : swapB rows a n = swapB rows n a := by
  refine list_eq_getD [] (by simp [swapB]) fun j _ => ?_
  show grp (swapB rows a n) j = grp (swapB rows n a) j
  rw [swapB_grp ha hn, swapB_grp hn ha]
  by_cases h1 : j = n
  · subst h1
    by_cases h2 : j = a
    · subst h2; rfl
    · rw [if_pos rfl, if_neg h2, if_pos rfl]
  · by_cases h2 : j = a
    · subst h2; rw [if_neg h1, if_pos rfl, if_pos rfl]
    · rw [if_neg h1, if_neg h2, if_neg h2, if_neg h1]
def elimB (p : Int) (c n : Nat) (rows : List (List Int)) : List (List Int) := (List.range rows.length).map fun i => if i = n then grp rows i else addB p (grp rows i) (grp rows n) (p - (grp rows i).getD c 0)
theorem addB_p {p : Int} {C : Nat} {r s : List Int} (hp : 2 ≤ p) (h : RowP p C r) : addB p r s p = r := by
  refine list_eq_getD 0 (by simp [addB]) fun j hj => ?_
  unfold addB
  rw [getD_map _ _ _ _ (by simpa [addB] using hj), Int.add_mul_emod_self_right]
  have := h.2 j
  exact Int.emod_eq_of_lt this.1 (by omega)
theorem impl_elim_ev {p : Int} {C c n : Nat} {rows : List (List Int)} (hp : 2 ≤ p ∧ p ≤ 31) (hC : C ≤ 1000) (hl : rows.length ≤ 1000) (hM : MatP p C rows) (hc : c < C) (hn : n < rows.length) :
    Ev (fun k => impl_Matrix_echelon.l2 k p (c : Int) (n : Int) rows 0) (elimB p c n rows) := by
  unfold elimB
  refine setloop_ev ([] : List Int) (l := fun k i xs => impl_Matrix_echelon.l2 k p (c : Int) (n : Int) xs i) rows (fun i x => if i = n then x else addB p x (grp rows n) (p - x.getD c 0)) (fun i xs hi hx hj q hq => ?_) (fun xs hx => ?_)
  · have hr := hM i hi
    have hrn := hM n hn
    have e : grp xs i = grp rows i := by
      have := hj i hi
      rw [if_neg (by omega)] at this
      exact this
    have en : grp xs n = grp rows n := by
      have h2 := hj n hn
      have h3 : (if n < i then (if n = n then rows.getD n [] else addB p (rows.getD n []) (grp rows n) (p - (rows.getD n []).getD c 0)) else rows.getD n []) = rows.getD n [] := by split <;> simp
      exact h2.trans h3
    by_cases hin : i = n
    · subst hin
      have hset : xs.set i (if i = i then rows.getD i [] else addB p (rows.getD i []) (grp rows i) (p - (rows.getD i []).getD c 0)) = xs := by
        rw [if_pos rfl]
        refine list_eq_getD [] (by simp) fun j _ => ?_
        rw [getD_set _ _ _ _ _ (by omega)]
        by_cases h1 : j = i
        · subst h1; rw [if_pos rfl]; exact e.symm
        · rw [if_neg h1]
      rw [hset] at hq
      refine Ev.step (fun k => ?_) hq
      simp only [impl_Matrix_echelon.l2]
      rw [if_pos (by omega), if_pos (by omega), if_pos trivial, wr (by omega) (by omega)]
      rfl
    · refine Ev.step (f := fun k => (impl_takeOff.f k p (grp rows i) (grp rows n) ((grp rows i).getD c 0)).bind fun t => impl_Matrix_echelon.l2 k p (c : Int) (n : Int) (xs.set i t) ((i + 1 : Nat) : Int)) (fun k => ?_) (Ev.bind (impl_takeOff_ev hp hC hr hrn (by have := hr.2 c; omega)) ?_)
      · have h1 := hr.1
        simp only [impl_Matrix_echelon.l2]
        rw [if_pos (by omega), if_pos (by omega), if_neg (by omega), if_pos (by omega), if_pos (by omega), if_pos (by omega), rdL_cast, rdL_cast, e, en, if_pos (by omega), rd_cast, wr (by omega) (by omega)]
        rfl
      · rw [if_neg hin] at hq
        exact hq
  · refine Ev.step (f := fun _ => some xs) (fun k => ?_) (Ev.now _)
    simp only [impl_Matrix_echelon.l2]
    rw [if_neg (by omega)]
theorem spec_elim_ev {p : Int} {C c n : Nat} {rows : List (List Int)} (hp : 2 ≤ p ∧ p ≤ 31) (hC : C ≤ 1000) (hl : rows.length ≤ 1000) (hM : MatP p C rows) (hc : c < C) (hn : n < rows.length) :
    Ev (fun k => spec_l03Echelon.l2 k p (c : Int) (n : Int) rows 0) (elimB p c n rows) := by
  unfold elimB
  refine setloop_ev ([] : List Int) (l := fun k i xs => spec_l03Echelon.l2 k p (c : Int) (n : Int) xs i) rows (fun i x => if i = n then x else addB p x (grp rows n) (p - x.getD c 0)) (fun i xs hi hx hj q hq => ?_) (fun xs hx => ?_)
  · have hr := hM i hi
    have hrn := hM n hn
    have e : grp xs i = grp rows i := by
      have := hj i hi
      rw [if_neg (by omega)] at this
      exact this
    have en : grp xs n = grp rows n := by
      have h2 := hj n hn
      have h3 : (if n < i then (if n = n then rows.getD n [] else addB p (rows.getD n []) (grp rows n) (p - (rows.getD n []).getD c 0)) else rows.getD n []) = rows.getD n [] := by split <;> simp
      exact h2.trans h3
    have same : ∀ v, v = grp rows i → xs.set i v = xs := by
      rintro v rfl
      refine list_eq_getD [] (by simp) fun j _ => ?_
      rw [getD_set _ _ _ _ _ (by omega)]
      by_cases h1 : j = i
      · subst h1; rw [if_pos rfl]; exact e.symm
      · rw [if_neg h1]
    by_cases hin : i = n
    · subst hin
      rw [same _ (by rw [if_pos rfl]; rfl)] at hq
      refine Ev.step (fun k => ?_) hq
      simp only [spec_l03Echelon.l2]
      rw [if_pos (by omega), if_pos (by omega), if_pos trivial, wr (by omega) (by omega)]
      rfl
    · have h1 := hr.1
      by_cases h0 : (grp rows i).getD c 0 = 0
      · rw [same _ (by rw [if_neg hin]; show addB p (grp rows i) (grp rows n) (p - (grp rows i).getD c 0) = _; rw [h0, Int.sub_zero]; exact addB_p hp.1 hr)] at hq
        refine Ev.step (fun k => ?_) hq
        simp only [spec_l03Echelon.l2]
        rw [if_pos (by omega), if_pos (by omega), if_neg (by omega), if_pos (by omega), rdL_cast, e, if_pos (by omega), rd_cast, if_pos h0, wr (by omega) (by omega)]
        rfl
      · refine Ev.step (f := fun k => (spec_l03Add.f k p (grp rows i) (grp rows n) (p - (grp rows i).getD c 0)).bind fun t => spec_l03Echelon.l2 k p (c : Int) (n : Int) (xs.set i t) ((i + 1 : Nat) : Int)) (fun k => ?_) (Ev.bind (spec_l03Add_ev hp hC hr hrn (by have := hr.2 c; omega)) ?_)
        · have h2 := hr.2 c
          simp only [spec_l03Echelon.l2]
          rw [if_pos (by omega), if_pos (by omega), if_neg (by omega), if_pos (by omega), rdL_cast, rdL_cast, e, en, if_pos (by omega), rd_cast, if_neg h0, if_pos (by omega), if_pos (by omega), wr (x := p - _) (by omega) (by omega), wr (by omega) (by omega)]
          rfl
        · rw [if_neg hin] at hq
          exact hq
  · refine Ev.step (f := fun _ => some xs) (fun k => ?_) (Ev.now _)
    simp only [spec_l03Echelon.l2]
    rw [if_neg (by omega)]

end Go.Proofs.Ytjpbemomocccaaa.P

namespace Go.Proofs.Ytjpbemomocccaaa.P
open Go.RowKit Go.Proofs.YtjpbemomocccaaaW.PrintWords Go.Proofs.YtjpbemomocccaaaW.PrintLast Go.Proofs.YtjpbemomocccaaaW.PrintMore
attribute [local go_sem] max2_int min2_int max_two min_two max_three min_three max_four min_four
set_option linter.unusedVariables false
set_option linter.unusedSimpArgs false

/-! ### spec_EchelonOf: function 13 -/
end Go.Proofs.Ytjpbemomocccaaa.P

namespace Go.Proofs.Ytjpbemomocccaaa.P
open Go.RowKit Go.Proofs.YtjpbemomocccaaaW.PrintWords Go.Proofs.YtjpbemomocccaaaW.PrintLast Go.Proofs.YtjpbemomocccaaaW.PrintMore
attribute [local go_sem] max2_int min2_int max_two min_two max_three min_three max_four min_four
set_option linter.unusedVariables false
set_option linter.unusedSimpArgs false

/-! ### impl_EchelonOf: function 15 -/
end Go.Proofs.Ytjpbemomocccaaa.P

namespace Go.Proofs.Ytjpbemomocccaaa.P
open Go.RowKit Go.Proofs.YtjpbemomocccaaaW.PrintWords Go.Proofs.YtjpbemomocccaaaW.PrintLast Go.Proofs.YtjpbemomocccaaaW.PrintMore
attribute [local go_sem] max2_int min2_int max_two min_two max_three min_three max_four min_four
set_option linter.unusedVariables false
set_option linter.unusedSimpArgs false

theorem own_eq (l : List Int) (hl : l.length ≤ 1048576) : spec_l00Own.f l = some l := by
  unfold spec_l00Own.f
  simp only [Option.bind_some, List.length_nil, List.nil_append]
  rw [if_pos (by omega)]
theorem clone_eq (l : List Int) (hl : l.length ≤ 1048576) : slices_Clone_int64_int64.f l = some l := by
  unfold slices_Clone_int64_int64.f
  rw [if_pos (by omega)]

end Go.Proofs.Ytjpbemomocccaaa.P

namespace Go.Proofs.Ytjpbemomocccaaa.P
open Go.RowKit Go.Proofs.YtjpbemomocccaaaW.PrintWords Go.Proofs.YtjpbemomocccaaaW.PrintLast Go.Proofs.YtjpbemomocccaaaW.PrintMore
attribute [local go_sem] max2_int min2_int max_two min_two max_three min_three max_four min_four
set_option linter.unusedVariables false
set_option linter.unusedSimpArgs false

/-- One column of the echelon. -/
def stepB (p : Int) (s : List (List Int) × List Int) (c : Nat) : List (List Int) × List Int :=
  if findN s.1 c s.2.length < s.1.length then
    (elimB p c s.2.length ((swapB s.1 s.2.length (findN s.1 c s.2.length)).set s.2.length (timesB p (invB p ((grp s.1 (findN s.1 c s.2.length)).getD c 0)) (grp s.1 (findN s.1 c s.2.length)))), s.2 ++ [(c : Int)])
  else s
/-- The rows and the columns of their first elements, behind all columns; the rows beyond these columns' number are still there. -/
def fullB (p : Int) (C : Nat) (rows : List (List Int)) : List (List Int) × List Int := (List.range C).foldl (stepB p) (rows, [])
structure EchP (p : Int) (C : Nat) (s : List (List Int) × List Int) : Prop where
  mat : MatP p C s.1
  le : s.2.length ≤ s.1.length
  rl : s.1.length ≤ 1000
theorem elimB_length (p : Int) (c n : Nat) (rows : List (List Int)) : (elimB p c n rows).length = rows.length := by simp [elimB]
theorem elimB_grp {p : Int} {c n : Nat} {rows : List (List Int)} {i : Nat} (hi : i < rows.length) : grp (elimB p c n rows) i = if i = n then grp rows i else addB p (grp rows i) (grp rows n) (p - (grp rows i).getD c 0) := by
  unfold elimB
  show ((List.range rows.length).map _).getD i [] = _
  rw [getD_map _ _ _ _ hi]
theorem elimB_mat {p : Int} {C c n : Nat} {rows : List (List Int)} (hp : 2 ≤ p) (h : MatP p C rows) : MatP p C (elimB p c n rows) := by
  intro i hi
  rw [elimB_length] at hi
  rw [elimB_grp hi]
  split
  · exact h i hi
  · exact addB_row hp (h i hi)
theorem set_mat {p : Int} {C n : Nat} {rows : List (List Int)} {r : List Int} (h : MatP p C rows) (hn : n < rows.length) (hr : RowP p C r) : MatP p C (rows.set n r) := by
  intro i hi
  rw [List.length_set] at hi
  show RowP p C ((rows.set n r).getD i [])
  rw [getD_set _ _ _ _ _ hn]
  split
  · exact hr
  · exact h i hi
theorem swap_mat {p : Int} {C n a : Nat} {rows : List (List Int)} (h : MatP p C rows) (hn : n < rows.length) (ha : a < rows.length) : MatP p C (swapB rows n a) := by
  intro i hi
  rw [swapB_length] at hi
  rw [swapB_grp hn ha]
  split
  · exact h n hn
  · split
    · exact h a ha
    · exact h i hi
theorem step_ech {p : Int} {C : Nat} {s : List (List Int) × List Int} (hp : 2 ≤ p) (h : EchP p C s) (c : Nat) : EchP p C (stepB p s c) := by
  unfold stepB
  by_cases ha : findN s.1 c s.2.length < s.1.length
  · have hle := (findN_le (rows := s.1) (c := c) (s.1.length - s.2.length) s.2.length (by have := h.le; omega)).1
    have hn : s.2.length < s.1.length := by omega
    rw [if_pos ha]
    refine ⟨elimB_mat hp (set_mat (swap_mat h.mat hn ha) (by rw [swapB_length]; exact hn) (timesB_row hp (h.mat _ ha))), ?_, ?_⟩
    · simp only [elimB_length, List.length_set, swapB_length, List.length_append, List.length_singleton]; omega
    · simp only [elimB_length, List.length_set, swapB_length]; exact h.rl
  · rw [if_neg ha]; exact h
theorem step_length (p : Int) (s : List (List Int) × List Int) (c : Nat) : (stepB p s c).1.length = s.1.length := by
  unfold stepB
  split
  · simp [elimB_length, swapB_length]
  · rfl
theorem invB_range {p a : Int} (hp : 2 ≤ p) : 0 ≤ invB p a ∧ invB p a ≤ p - 1 := pw_range hp _
theorem impl_ech_loop {p : Int} {C : Nat} (hp : 2 ≤ p ∧ p ≤ 31) (hC : C ≤ 1000) : ∀ (d c : Nat) (s : List (List Int) × List Int), c + d = C → EchP p C s → Ev (fun k => impl_Matrix_echelon.l0 k p (C : Int) s.1 s.2 (c : Int)) ((List.range' c d).foldl (stepB p) s) := by
  intro d
  induction d with
  | zero =>
    intro c s hc h
    refine Ev.step (f := fun _ => some (s.1, s.2)) (fun k => ?_) (Ev.now _)
    simp only [impl_Matrix_echelon.l0]
    rw [if_neg (by omega)]
  | succ d ih =>
    intro c s hc h
    have hn := ih (c + 1) (stepB p s c) (by omega) (step_ech hp.1 h c)
    rw [List.range'_succ, List.foldl_cons]
    obtain ⟨g1, g2, g3, g4⟩ := findN_le (rows := s.1) (c := c) (s.1.length - s.2.length) s.2.length (by have := h.le; omega)
    have hrl := h.rl
    refine Ev.step (f := fun k => (findB k s.1 (c : Int) (s.2.length : Int)).bind fun a => if a = (s.1.length : Int) then impl_Matrix_echelon.l0 k p (C : Int) s.1 s.2 ((c + 1 : Nat) : Int) else (if 0 ≤ a then (if a < (s.1.length : Int) then (if (s.2.length : Int) < (s.1.length : Int) then (if 0 ≤ (c : Int) then (if (c : Int) < ((rd_L1 (swapB s.1 s.2.length a.toNat) (s.2.length : Int)).length : Int) then ((impl_inverse.f k p (rd (rd_L1 (swapB s.1 s.2.length a.toNat) (s.2.length : Int)) (c : Int))).bind fun inv => ((impl_scaled.f k p (rd_L1 (swapB s.1 s.2.length a.toNat) (s.2.length : Int)) inv).bind fun r => ((impl_Matrix_echelon.l2 k p (c : Int) (s.2.length : Int) ((swapB s.1 s.2.length a.toNat).set s.2.length r) 0).bind fun rows2 => if s.2.length < 17592186044416 then impl_Matrix_echelon.l0 k p (C : Int) rows2 (s.2 ++ [(c : Int)]) ((c + 1 : Nat) : Int) else none))) else none) else none) else none) else none) else none)) (fun k => ?_) ?_
    · simp only [impl_Matrix_echelon.l0]
      rw [if_pos (by omega), wr (x := (c : Int) + 1) (by omega) (by omega)]
      rfl
    · refine Ev.bind (findB_ev h.mat (by omega) hrl (s.1.length - s.2.length) s.2.length (by have := h.le; omega)) ?_
      by_cases ha : findN s.1 c s.2.length < s.1.length
      · have hlt : s.2.length < s.1.length := by omega
        have hra := h.mat _ ha
        have e1 : grp (swapB s.1 s.2.length (findN s.1 c s.2.length)) s.2.length = grp s.1 (findN s.1 c s.2.length) := by
          rw [swapB_grp hlt ha]
          split
          · rename_i e; rw [← e]
          · rw [if_pos rfl]
        have hl := hra.1
        simp only [if_neg (show ¬ ((findN s.1 c s.2.length : Nat) : Int) = (s.1.length : Int) by omega), if_pos (show (0 : Int) ≤ ((findN s.1 c s.2.length : Nat) : Int) by omega), if_pos (show ((findN s.1 c s.2.length : Nat) : Int) < (s.1.length : Int) by omega), if_pos (show (s.2.length : Int) < (s.1.length : Int) by omega), if_pos (show (0 : Int) ≤ (c : Int) by omega), Int.toNat_natCast, rdL_cast, e1, rd_cast, if_pos (show (c : Int) < ((grp s.1 (findN s.1 c s.2.length)).length : Int) by omega), if_pos (show s.2.length < 17592186044416 by omega)]
        refine Ev.bind (impl_inverse_ev p _ hp (hra.2 c)) (Ev.bind (impl_scaled_ev hp hC hra (by have := invB_range (a := (grp s.1 (findN s.1 c s.2.length)).getD c 0) hp.1; unfold invB at *; omega)) (Ev.bind (impl_elim_ev hp hC (by rw [List.length_set, swapB_length]; exact hrl) (set_mat (swap_mat h.mat hlt ha) (by rw [swapB_length]; exact hlt) (timesB_row hp.1 hra)) (by omega) (by rw [List.length_set, swapB_length]; exact hlt)) ?_))
        unfold stepB at hn ⊢
        rw [if_pos ha] at hn ⊢
        exact hn
      · simp only [if_pos (show ((findN s.1 c s.2.length : Nat) : Int) = (s.1.length : Int) by omega)]
        unfold stepB at hn ⊢
        rw [if_neg ha] at hn ⊢
        exact hn
theorem step_full {p : Int} {s : List (List Int) × List Int} (h : s.1.length ≤ s.2.length) (c : Nat) : stepB p s c = s := by
  unfold stepB
  rw [findN_end h, if_neg (by omega)]
theorem foldl_full {p : Int} {s : List (List Int) × List Int} (h : s.1.length ≤ s.2.length) : ∀ l : List Nat, l.foldl (stepB p) s = s := by
  intro l
  induction l with
  | nil => rfl
  | cons c l ih => rw [List.foldl_cons, step_full h, ih]
theorem spec_ech_loop {p : Int} {C : Nat} (hp : 2 ≤ p ∧ p ≤ 31) (hC : C ≤ 1000) : ∀ (d c : Nat) (s : List (List Int) × List Int), c + d = C → EchP p C s → Ev (fun k => spec_l03Echelon.l0 k p (C : Int) s.1 s.2 (s.2.length : Int) (c : Int)) (((List.range' c d).foldl (stepB p) s).1, ((List.range' c d).foldl (stepB p) s).2, (((List.range' c d).foldl (stepB p) s).2.length : Int)) := by
  intro d
  induction d with
  | zero =>
    intro c s hc h
    refine Ev.step (f := fun _ => some (s.1, s.2, (s.2.length : Int))) (fun k => ?_) (Ev.now _)
    simp only [spec_l03Echelon.l0]
    rw [if_neg (by omega)]
  | succ d ih =>
    intro c s hc h
    by_cases hful : s.1.length ≤ s.2.length
    · rw [foldl_full hful]
      refine Ev.step (f := fun _ => some (s.1, s.2, (s.2.length : Int))) (fun k => ?_) (Ev.now _)
      simp only [spec_l03Echelon.l0]
      rw [if_pos (by omega), if_neg (by omega)]
    have hlt : s.2.length < s.1.length := by omega
    have hn := ih (c + 1) (stepB p s c) (by omega) (step_ech hp.1 h c)
    rw [List.range'_succ, List.foldl_cons]
    obtain ⟨g1, g2, g3, g4⟩ := findN_le (rows := s.1) (c := c) (s.1.length - s.2.length) s.2.length (by have := h.le; omega)
    have hrl := h.rl
    refine Ev.step (f := fun k => (findB k s.1 (c : Int) (s.2.length : Int)).bind fun a => if a = (s.1.length : Int) then spec_l03Echelon.l0 k p (C : Int) s.1 s.2 (s.2.length : Int) ((c + 1 : Nat) : Int) else (if 0 ≤ a then (if a < (s.1.length : Int) then (if 0 ≤ (s.2.length : Int) then (if 0 ≤ (c : Int) then (if (c : Int) < ((rd_L1 s.1 a).length : Int) then ((spec_l03Inverse.f k p (rd (rd_L1 s.1 a) (c : Int))).bind fun inv => ((spec_l03Times.f k p (rd_L1 s.1 a) inv).bind fun r => ((spec_l03Echelon.l2 k p (c : Int) (s.2.length : Int) ((swapB s.1 a.toNat (s.2.length : Int).toNat).set (s.2.length : Int).toNat r) 0).bind fun rows2 => if s.2.length < 17592186044416 then spec_l03Echelon.l0 k p (C : Int) rows2 (s.2 ++ [(c : Int)]) (wrap64 ((s.2.length : Int) + 1)) ((c + 1 : Nat) : Int) else none))) else none) else none) else none) else none) else none)) (fun k => ?_) ?_
    · simp only [spec_l03Echelon.l0]
      rw [if_pos (by omega), if_pos (by omega), wr (x := (c : Int) + 1) (by omega) (by omega)]
      rfl
    · refine Ev.bind (findB_ev h.mat (by omega) hrl (s.1.length - s.2.length) s.2.length (by have := h.le; omega)) ?_
      by_cases ha : findN s.1 c s.2.length < s.1.length
      · have hra := h.mat _ ha
        have hl := hra.1
        simp only [if_neg (show ¬ ((findN s.1 c s.2.length : Nat) : Int) = (s.1.length : Int) by omega), if_pos (show (0 : Int) ≤ ((findN s.1 c s.2.length : Nat) : Int) by omega), if_pos (show ((findN s.1 c s.2.length : Nat) : Int) < (s.1.length : Int) by omega), if_pos (show (0 : Int) ≤ (s.2.length : Int) by omega), if_pos (show (0 : Int) ≤ (c : Int) by omega), Int.toNat_natCast, rdL_cast, rd_cast, if_pos (show (c : Int) < ((grp s.1 (findN s.1 c s.2.length)).length : Int) by omega), if_pos (show s.2.length < 17592186044416 by omega), swapB_comm hlt ha, wr (x := (s.2.length : Int) + 1) (by omega) (by omega)]
        refine Ev.bind (spec_inverse_ev p _ hp (hra.2 c)) (Ev.bind (spec_l03Times_ev hp hC hra (by have := invB_range (a := (grp s.1 (findN s.1 c s.2.length)).getD c 0) hp.1; unfold invB at *; omega)) (Ev.bind (spec_elim_ev hp hC (by rw [List.length_set, swapB_length]; exact hrl) (set_mat (swap_mat h.mat hlt ha) (by rw [swapB_length]; exact hlt) (timesB_row hp.1 hra)) (by omega) (by rw [List.length_set, swapB_length]; exact hlt)) ?_))
        unfold stepB at hn ⊢
        rw [if_pos ha] at hn ⊢
        simp only [List.length_append, List.length_singleton] at hn
        exact hn
      · simp only [if_pos (show ((findN s.1 c s.2.length : Nat) : Int) = (s.1.length : Int) by omega)]
        unfold stepB at hn ⊢
        rw [if_neg ha] at hn ⊢
        exact hn
theorem fold_ech {p : Int} {C : Nat} (hp : 2 ≤ p) : ∀ (l : List Nat) (s : List (List Int) × List Int), EchP p C s → EchP p C (l.foldl (stepB p) s) ∧ (l.foldl (stepB p) s).1.length = s.1.length := by
  intro l
  induction l with
  | nil => intro s h; exact ⟨h, rfl⟩
  | cons c l ih =>
    intro s h
    obtain ⟨h1, h2⟩ := ih (stepB p s c) (step_ech hp h c)
    exact ⟨h1, h2.trans (step_length p s c)⟩
theorem full_ech {p : Int} {C : Nat} {rows : List (List Int)} (hp : 2 ≤ p) (hM : MatP p C rows) (hl : rows.length ≤ 1000) : EchP p C (fullB p C rows) ∧ (fullB p C rows).1.length = rows.length := fold_ech hp _ _ ⟨hM, Nat.zero_le _, hl⟩
/-- The echelon's rows and the columns of their first elements. -/
def echB (p : Int) (C : Nat) (rows : List (List Int)) : List (List Int) × List Int := ((fullB p C rows).1.take (fullB p C rows).2.length, (fullB p C rows).2)
theorem copies_same (rows : List (List Int)) : (List.range rows.length).map (fun i => grp rows i) = rows := list_of_getD rows []
theorem impl_copyRows_ev (rows : List (List Int)) (hl : rows.length ≤ 1048576) (hr : ∀ r ∈ rows, r.length ≤ 1048576) : Ev (fun k => impl_copyRows.f k rows) rows := by
  unfold impl_copyRows.f
  refine build_ev (l := fun k i acc => impl_copyRows.l0 k acc rows (rows.length : Int) i) rows.length (fun i => grp rows i) (fun i acc hi ha r hr2 => ?_) ?_
  · refine Ev.step (fun k => ?_) hr2
    simp only [impl_copyRows.l0]
    rw [if_pos (by omega), if_pos (by omega), if_pos (by omega), rdL_cast, clone_eq _ (grp_len hr _), wr (by omega) (by omega)]
    simp only [Option.bind_some, if_pos (show acc.length < 5864062014805 by omega)]
    rfl
  · refine Ev.step (f := fun _ => some rows) (fun k => ?_) (Ev.now _)
    simp only [impl_copyRows.l0]
    rw [if_neg (by omega), copies_same]
theorem spec_l03Copy_ev (p c : Int) (rows : List (List Int)) (hl : rows.length ≤ 1048576) (hr : ∀ r ∈ rows, r.length ≤ 1048576) : Ev (fun k => spec_l03Copy.f k p c rows) (p, c, rows) := by
  unfold spec_l03Copy.f
  refine build_ev (l := fun k i acc => spec_l03Copy.l0 k i p c rows p c acc) rows.length (fun i => grp rows i) (fun i acc hi ha r hr2 => ?_) ?_
  · refine Ev.step (fun k => ?_) hr2
    simp only [spec_l03Copy.l0]
    rw [if_pos (by omega), if_pos (by omega), rdL_cast, own_eq _ (grp_len hr _), wr (by omega) (by omega)]
    simp only [Option.bind_some, if_pos (show acc.length < 5864062014805 by omega)]
    rfl
  · refine Ev.step (f := fun _ => some (p, c, rows)) (fun k => ?_) (Ev.now _)
    simp only [spec_l03Copy.l0]
    rw [if_neg (by omega), copies_same]
theorem mat_small {p : Int} {C : Nat} {rows : List (List Int)} (hM : MatP p C rows) : ∀ r ∈ rows, r.length = C := by
  intro r hr
  obtain ⟨i, hi, rfl⟩ := List.getElem_of_mem hr
  have := (hM i hi).1
  rwa [show grp rows i = rows[i] from by simp [grp, hi]] at this
theorem impl_echelon_ev {p : Int} {C : Nat} {rows : List (List Int)} (hp : 2 ≤ p ∧ p ≤ 31) (hC : C ≤ 1000) (hM : MatP p C rows) (hl : rows.length ≤ 1000) : Ev (fun k => impl_Matrix_echelon.f k p (C : Int) rows) (p, (C : Int), (echB p C rows).1, (echB p C rows).2) := by
  unfold impl_Matrix_echelon.f
  have hs := mat_small hM
  refine Ev.bind (impl_copyRows_ev rows (by omega) (fun r hr => by rw [hs r hr]; omega)) ?_
  refine Ev.bind (impl_ech_loop hp hC C 0 (rows, []) (by omega) ⟨hM, Nat.zero_le _, hl⟩) ?_
  rw [← List.range_eq_range']
  have h := (full_ech hp.1 hM hl).1.le
  unfold echB
  show Ev (fun _ => if (fullB p C rows).2.length ≤ (fullB p C rows).1.length then _ else none) _
  simp only [if_pos h]
  exact Ev.now _
theorem spec_echelon_ev {p : Int} {C : Nat} {rows : List (List Int)} (hp : 2 ≤ p ∧ p ≤ 31) (hC : C ≤ 1000) (hM : MatP p C rows) (hl : rows.length ≤ 1000) : Ev (fun k => spec_l03Echelon.f k p (C : Int) rows) (p, (C : Int), (echB p C rows).1, (echB p C rows).2) := by
  unfold spec_l03Echelon.f
  have hs := mat_small hM
  refine Ev.bind (spec_l03Copy_ev p (C : Int) rows (by omega) (fun r hr => by rw [hs r hr]; omega)) ?_
  refine Ev.bind (spec_ech_loop hp hC C 0 (rows, []) (by omega) ⟨hM, Nat.zero_le _, hl⟩) ?_
  rw [← List.range_eq_range']
  have h := (full_ech hp.1 hM hl).1.le
  unfold echB
  show Ev (fun _ => if (0 : Int) ≤ ((fullB p C rows).2.length : Int) then (if ((fullB p C rows).2.length : Int) ≤ ((fullB p C rows).1.length : Int) then some (p, (C : Int), (fullB p C rows).1.take ((fullB p C rows).2.length : Int).toNat, (fullB p C rows).2) else none) else none) _
  simp only [if_pos (show (0 : Int) ≤ ((fullB p C rows).2.length : Int) by omega), if_pos (show ((fullB p C rows).2.length : Int) ≤ ((fullB p C rows).1.length : Int) by omega), Int.toNat_natCast]
  exact Ev.now _
theorem MatP_of_valid {p cols : Int} {rows : List (List Int)} (h : validMB p cols rows = true) : (2 ≤ p ∧ p ≤ 31) ∧ (cols.toNat : Int) = cols ∧ cols.toNat ≤ 12 ∧ rows.length ≤ 20 ∧ MatP p cols.toNat rows := by
  obtain ⟨h1, h2, h3, h4⟩ := validMB_parts h
  refine ⟨h1, by omega, by omega, h3, fun i hi => ⟨by have := (h4 i hi).1; omega, fun j => ?_⟩⟩
  by_cases hj : j < (grp rows i).length
  · have := elemsB_get (h4 i hi).2 j hj
    rw [List.getD_eq_getElem?_getD, List.getElem?_eq_getElem hj]
    exact this
  · rw [List.getD_eq_getElem?_getD, List.getElem?_eq_none (by omega)]
    show 0 ≤ (0 : Int) ∧ (0 : Int) ≤ p - 1
    omega
theorem ech_mat {p : Int} {C : Nat} {rows : List (List Int)} (hp : 2 ≤ p) (hM : MatP p C rows) (hl : rows.length ≤ 1000) : MatP p C (echB p C rows).1 ∧ (echB p C rows).1.length = (echB p C rows).2.length ∧ (echB p C rows).1.length ≤ rows.length := by
  obtain ⟨h1, h2⟩ := full_ech hp hM hl
  have hle := h1.le
  have e : (echB p C rows).1.length = (echB p C rows).2.length := by
    unfold echB
    rw [List.length_take]
    show min (fullB p C rows).2.length (fullB p C rows).1.length = (fullB p C rows).2.length
    omega
  refine ⟨fun i hi => ?_, e, ?_⟩
  · have hi2 : i < (fullB p C rows).2.length := by rw [e] at hi; exact hi
    have : grp (echB p C rows).1 i = grp (fullB p C rows).1 i := by
      unfold echB grp
      rw [List.getD_eq_getElem?_getD, List.getD_eq_getElem?_getD, List.getElem?_take, if_pos hi2]
    rw [this]
    exact h1.mat i (by omega)
  · rw [e]; unfold echB; show (fullB p C rows).2.length ≤ _; omega
end Go.Proofs.Ytjpbemomocccaaa.P

namespace Go.Proofs.Ytjpbemomocccaaa.P
open Go.RowKit Go.Proofs.YtjpbemomocccaaaW.PrintWords Go.Proofs.YtjpbemomocccaaaW.PrintLast Go.Proofs.YtjpbemomocccaaaW.PrintMore
attribute [local go_sem] max2_int min2_int max_two min_two max_three min_three max_four min_four
set_option linter.unusedVariables false
set_option linter.unusedSimpArgs false

theorem kHas_ev (piv : List Int) (x : Int) (hl : piv.length ≤ 1000) : Ev (fun k => spec_l00Has.f k piv x) (piv.contains x) := by
  unfold spec_l00Has.f
  have key : ∀ d i : Nat, i + d = piv.length → Ev (fun k => spec_l00Has.l0 k piv x (i : Int)) ((piv.drop i).contains x) := by
    intro d
    induction d with
    | zero =>
      intro i hi
      rw [List.drop_eq_nil_of_le (by omega)]
      refine Ev.step (f := fun _ => some false) (fun k => ?_) (Ev.now _)
      simp only [spec_l00Has.l0]
      rw [if_neg (by omega)]
    | succ d ih =>
      intro i hi
      have hlt : i < piv.length := by omega
      rw [List.drop_eq_getElem_cons hlt, List.contains_cons]
      by_cases h : piv[i] = x
      · refine Ev.step (f := fun _ => some true) (fun k => ?_) ?_
        · simp only [spec_l00Has.l0]
          rw [if_pos (by omega), if_pos (by omega), rd_nat piv i hlt, if_pos h]
        · rw [show (x == piv[i]) = true from beq_iff_eq.mpr h.symm]; exact Ev.now _
      · rw [show (x == piv[i]) = false from beq_eq_false_iff_ne.mpr (Ne.symm h), Bool.false_or]
        refine Ev.step (fun k => ?_) (ih (i + 1) (by omega))
        simp only [spec_l00Has.l0]
        rw [if_pos (by omega), if_pos (by omega), rd_nat piv i hlt, if_neg h, wr (by omega) (by omega)]
        rfl
  have := key piv.length 0 (by omega)
  rw [List.drop_zero] at this
  exact this
theorem kIndex_ev (piv : List Int) (x : Int) (hl : piv.length ≤ 1000) : Ev (fun k => slices_Contains_int_int.f k piv x) (piv.contains x) := by
  unfold slices_Contains_int_int.f slices_Index_int_int.f
  have key : ∀ d i : Nat, i + d = piv.length → ∃ r : Int, Ev (fun k => slices_Index_int_int.l0 k piv x (piv.length : Int) (i : Int)) r ∧ decide (r ≥ 0) = (piv.drop i).contains x := by
    intro d
    induction d with
    | zero =>
      intro i hi
      refine ⟨-1, Ev.step (f := fun _ => some (-1)) (fun k => ?_) (Ev.now _), ?_⟩
      · simp only [slices_Index_int_int.l0]
        rw [if_neg (by omega)]
      · rw [List.drop_eq_nil_of_le (by omega)]; rfl
    | succ d ih =>
      intro i hi
      have hlt : i < piv.length := by omega
      rw [List.drop_eq_getElem_cons hlt, List.contains_cons]
      by_cases h : x = piv[i]
      · refine ⟨(i : Int), Ev.step (f := fun _ => some (i : Int)) (fun k => ?_) (Ev.now _), ?_⟩
        · simp only [slices_Index_int_int.l0]
          rw [if_pos (by omega), if_pos (by omega), if_pos (by omega), rd_nat piv i hlt, if_pos h]
        · rw [show (x == piv[i]) = true from beq_iff_eq.mpr h, Bool.true_or]; exact decide_eq_true (by omega)
      · obtain ⟨r, hr, he⟩ := ih (i + 1) (by omega)
        refine ⟨r, Ev.step (fun k => ?_) hr, ?_⟩
        · simp only [slices_Index_int_int.l0]
          rw [if_pos (by omega), if_pos (by omega), if_pos (by omega), rd_nat piv i hlt, if_neg h, wr (by omega) (by omega)]
          rfl
        · rw [show (x == piv[i]) = false from beq_eq_false_iff_ne.mpr h, Bool.false_or]; exact he
  obtain ⟨r, hr, he⟩ := key piv.length 0 (by omega)
  rw [List.drop_zero] at he
  rw [← he]
  exact Ev.bind hr (Ev.now _)
theorem step_piv {p : Int} {C : Nat} {s : List (List Int) × List Int} {c : Nat} (hc : c < C) (h : ∀ x ∈ s.2, 0 ≤ x ∧ x < (C : Int)) : ∀ x ∈ (stepB p s c).2, 0 ≤ x ∧ x < (C : Int) := by
  unfold stepB
  split
  · intro x hx
    rcases List.mem_append.mp hx with hx | hx
    · exact h x hx
    · obtain rfl := List.mem_singleton.mp hx; omega
  · exact h
theorem fold_piv {p : Int} {C : Nat} : ∀ (l : List Nat) (s : List (List Int) × List Int), (∀ c ∈ l, c < C) → (∀ x ∈ s.2, 0 ≤ x ∧ x < (C : Int)) → ∀ x ∈ (l.foldl (stepB p) s).2, 0 ≤ x ∧ x < (C : Int) := by
  intro l
  induction l with
  | nil => intro s _ h; exact h
  | cons c l ih => intro s hl h; exact ih _ (fun c' hc' => hl c' (List.mem_cons_of_mem _ hc')) (step_piv (hl c (List.mem_cons_self ..)) h)
theorem ech_piv (p : Int) (C : Nat) (rows : List (List Int)) : ∀ x ∈ (echB p C rows).2, 0 ≤ x ∧ x < (C : Int) := fold_piv _ _ (fun c hc => List.mem_range.mp hc) (by simp)
theorem ech_piv_at (p : Int) (C : Nat) (rows : List (List Int)) (i : Nat) (hi : i < (echB p C rows).2.length) : 0 ≤ (echB p C rows).2.getD i 0 ∧ (echB p C rows).2.getD i 0 < (C : Int) := by
  rw [List.getD_eq_getElem?_getD, List.getElem?_eq_getElem hi]
  exact ech_piv p C rows _ (List.getElem_mem hi)
def kerGo (p : Int) (E : List (List Int)) (piv : List Int) (c : Nat) : Nat → Nat → List Int → List Int
  | 0, _, row => row
  | d + 1, i, row => kerGo p E piv c d (i + 1) (row.set (piv.getD i 0).toNat ((p - (grp E i).getD c 0) % p))
def kerRow (p : Int) (C : Nat) (E : List (List Int)) (piv : List Int) (c : Nat) : List Int := kerGo p E piv c piv.length 0 ((List.replicate C 0).set c 1)
def kerB (p : Int) (C : Nat) (E : List (List Int)) (piv : List Int) : List (List Int) := ((List.range C).filter fun (c : Nat) => !piv.contains (c : Int)).map (kerRow p C E piv)
theorem RowP_set {p : Int} {C n : Nat} {r : List Int} {v : Int} (h : RowP p C r) (hn : n < C) (hv : 0 ≤ v ∧ v ≤ p - 1) : RowP p C (r.set n v) := by
  refine ⟨by rw [List.length_set]; exact h.1, fun j => ?_⟩
  rw [getD_set _ _ _ _ _ (by rw [h.1]; exact hn)]
  split
  · exact hv
  · exact h.2 j
theorem RowP_zero {p : Int} (hp : 2 ≤ p) (C : Nat) : RowP p C (List.replicate C 0) := by
  refine ⟨by simp, fun j => ?_⟩
  have : (List.replicate C (0 : Int)).getD j 0 = 0 := by
    rw [List.getD_eq_getElem?_getD, List.getElem?_replicate]
    split <;> rfl
  rw [this]; omega
theorem kerGo_row {p : Int} {C : Nat} {E : List (List Int)} {piv : List Int} {c : Nat} (hp : 2 ≤ p) (hpiv : ∀ i, i < piv.length → 0 ≤ piv.getD i 0 ∧ piv.getD i 0 < (C : Int)) : ∀ d i row, i + d = piv.length → RowP p C row → RowP p C (kerGo p E piv c d i row) := by
  intro d
  induction d with
  | zero => intro i row _ h; exact h
  | succ d ih =>
    intro i row hi h
    have := hpiv i (by omega)
    exact ih (i + 1) _ (by omega) (RowP_set h (by omega) (mod_range hp _))
theorem kerRow_row {p : Int} {C : Nat} {E : List (List Int)} {piv : List Int} {c : Nat} (hp : 2 ≤ p) (hc : c < C) (hpiv : ∀ i, i < piv.length → 0 ≤ piv.getD i 0 ∧ piv.getD i 0 < (C : Int)) : RowP p C (kerRow p C E piv c) :=
  kerGo_row hp hpiv _ _ _ (by omega) (RowP_set (RowP_zero hp C) hc (by omega))
theorem spec_ker_go {p : Int} {C : Nat} {E rows0 acc : List (List Int)} {piv : List Int} {c : Nat} {a b : Int} {r : Int × Int × List (List Int)} (hp : 2 ≤ p ∧ p ≤ 31) (hl : piv.length ≤ 1000) (hE : MatP p C E) (hlen : E.length = piv.length) (hc : c < C) (hacc : acc.length ≤ 1000) (hpiv : ∀ i, i < piv.length → 0 ≤ piv.getD i 0 ∧ piv.getD i 0 < (C : Int)) :
    ∀ d i row, i + d = piv.length → RowP p C row → Ev (fun k => spec_l03Kernel.l0 k piv (wrap64 ((c : Int) + 1)) p (C : Int) rows0 a b E p (C : Int) (acc ++ [kerGo p E piv c d i row])) r → Ev (fun k => spec_l03Kernel.l1 k piv (c : Int) row (i : Int) p (C : Int) rows0 a b E p (C : Int) acc) r := by
  intro d
  induction d with
  | zero =>
    intro i row hi hr h
    refine Ev.step (fun k => ?_) h
    simp only [spec_l03Kernel.l1]
    rw [if_neg (by omega), if_pos (by omega)]
    rfl
  | succ d ih =>
    intro i row hi hr h
    have hpi := hpiv i (by omega)
    have hrl := hr.1
    have hEi := hE i (by omega)
    have hEl := hEi.1
    have hEc := hEi.2 c
    refine Ev.step (fun k => ?_) (ih (i + 1) _ (by omega) (RowP_set hr (n := (piv.getD i 0).toNat) (by omega) (mod_range hp.1 _)) h)
    simp only [spec_l03Kernel.l1]
    rw [if_pos (by omega), if_pos (by omega), if_pos (by omega), if_pos (by omega), rdL_cast, if_pos (by omega), if_neg (by omega), rd_cast, rd_cast, if_pos hpi.1, if_pos (by omega), wr (x := p - _) (by omega) (by omega), wr (x := (i : Int) + 1) (by omega) (by omega), Int.tmod_eq_emod_of_nonneg (by omega)]
    rfl
theorem spec_ker_loop {p : Int} {C : Nat} {E rows0 : List (List Int)} {piv : List Int} {a b : Int} (hp : 2 ≤ p ∧ p ≤ 31) (hC : C ≤ 1000) (hl : piv.length ≤ 1000) (hE : MatP p C E) (hlen : E.length = piv.length) (hpiv : ∀ i, i < piv.length → 0 ≤ piv.getD i 0 ∧ piv.getD i 0 < (C : Int)) :
    ∀ d c acc, c + d = C → acc.length ≤ c → Ev (fun k => spec_l03Kernel.l0 k piv (c : Int) p (C : Int) rows0 a b E p (C : Int) acc) (p, (C : Int), acc ++ ((List.range' c d).filter fun (c : Nat) => !piv.contains (c : Int)).map (kerRow p C E piv)) := by
  intro d
  induction d with
  | zero =>
    intro c acc hc ha
    refine Ev.step (f := fun _ => some (p, (C : Int), acc)) (fun k => ?_) ?_
    · simp only [spec_l03Kernel.l0]
      rw [if_neg (by omega)]
    · rw [List.range'_zero, List.filter_nil, List.map_nil, List.append_nil]; exact Ev.now _
  | succ d ih =>
    intro c acc hc ha
    rw [List.range'_succ, List.filter_cons]
    refine Ev.step (f := fun k => (spec_l00Has.f k piv (c : Int)).bind fun t225 => (if t225 = true then (spec_l03Kernel.l0 k piv (wrap64 ((c : Int) + 1)) p (C : Int) rows0 a b E p (C : Int) acc) else (spec_l03Kernel.l1 k piv (c : Int) ((List.replicate C 0).set c 1) 0 p (C : Int) rows0 a b E p (C : Int) acc))) (fun k => ?_) (Ev.bind (kHas_ev piv c hl) ?_)
    · simp only [spec_l03Kernel.l0]
      rw [if_pos (by omega), if_pos (by omega), Int.toNat_natCast, if_pos (by omega)]
      simp only [Option.bind_some, List.length_replicate, if_pos (show (0 : Int) ≤ (c : Int) by omega), if_pos (show (c : Int) < (C : Int) by omega), Int.toNat_natCast]
    · cases hcon : piv.contains (c : Int) with
      | true =>
        simp only [if_true, Bool.not_true]
        rw [wr (by omega) (by omega)]
        exact ih (c + 1) acc (by omega) (by omega)
      | false =>
        simp only [Bool.not_false, if_true, Bool.false_eq_true, if_false]
        refine spec_ker_go hp hl hE hlen (by omega) (by omega) hpiv piv.length 0 _ (by omega) (RowP_set (RowP_zero hp.1 C) (by omega) (by omega)) ?_
        rw [wr (by omega) (by omega)]
        have := ih (c + 1) (acc ++ [kerRow p C E piv c]) (by omega) (by simp; omega)
        rw [List.append_assoc] at this
        exact this
theorem impl_ker_go {p : Int} {C : Nat} {E rows0 acc : List (List Int)} {piv : List Int} {c : Nat} {a b : Int} {r : Int × Int × List (List Int)} (hp : 2 ≤ p ∧ p ≤ 31) (hl : piv.length ≤ 1000) (hE : MatP p C E) (hlen : E.length = piv.length) (hc : c < C) (hacc : acc.length ≤ 1000) (hpiv : ∀ i, i < piv.length → 0 ≤ piv.getD i 0 ∧ piv.getD i 0 < (C : Int)) :
    ∀ d i row, i + d = piv.length → RowP p C row → Ev (fun k => impl_Matrix_kernel.l0 k piv (C : Int) (wrap64 ((c : Int) + 1)) p (C : Int) rows0 a b E p (C : Int) (acc ++ [kerGo p E piv c d i row])) r → Ev (fun k => impl_Matrix_kernel.l1 k piv (c : Int) row (C : Int) (c : Int) piv (piv.length : Int) (i : Int) p (C : Int) rows0 a b E p (C : Int) acc) r := by
  intro d
  induction d with
  | zero =>
    intro i row hi hr h
    refine Ev.step (fun k => ?_) h
    simp only [impl_Matrix_kernel.l1]
    rw [if_neg (by omega), if_pos (by omega)]
    rfl
  | succ d ih =>
    intro i row hi hr h
    have hpi := hpiv i (by omega)
    have hrl := hr.1
    have hEi := hE i (by omega)
    have hEl := hEi.1
    have hEc := hEi.2 c
    refine Ev.step (fun k => ?_) (ih (i + 1) _ (by omega) (RowP_set hr (n := (piv.getD i 0).toNat) (by omega) (mod_range hp.1 _)) h)
    simp only [impl_Matrix_kernel.l1]
    rw [if_pos (by omega), if_pos (by omega), if_pos (by omega), if_pos (by omega), if_pos (by omega), rdL_cast, if_pos (by omega), if_neg (by omega), rd_cast, rd_cast, if_pos hpi.1, if_pos (by omega), wr (x := p - _) (by omega) (by omega), wr (x := (i : Int) + 1) (by omega) (by omega), Int.tmod_eq_emod_of_nonneg (by omega)]
    rfl
theorem impl_ker_loop {p : Int} {C : Nat} {E rows0 : List (List Int)} {piv : List Int} {a b : Int} (hp : 2 ≤ p ∧ p ≤ 31) (hC : C ≤ 1000) (hl : piv.length ≤ 1000) (hE : MatP p C E) (hlen : E.length = piv.length) (hpiv : ∀ i, i < piv.length → 0 ≤ piv.getD i 0 ∧ piv.getD i 0 < (C : Int)) :
    ∀ d c acc, c + d = C → acc.length ≤ c → Ev (fun k => impl_Matrix_kernel.l0 k piv (C : Int) (c : Int) p (C : Int) rows0 a b E p (C : Int) acc) (p, (C : Int), acc ++ ((List.range' c d).filter fun (c : Nat) => !piv.contains (c : Int)).map (kerRow p C E piv)) := by
  intro d
  induction d with
  | zero =>
    intro c acc hc ha
    refine Ev.step (f := fun _ => some (p, (C : Int), acc)) (fun k => ?_) ?_
    · simp only [impl_Matrix_kernel.l0]
      rw [if_neg (by omega)]
    · rw [List.range'_zero, List.filter_nil, List.map_nil, List.append_nil]; exact Ev.now _
  | succ d ih =>
    intro c acc hc ha
    rw [List.range'_succ, List.filter_cons]
    refine Ev.step (f := fun k => (slices_Contains_int_int.f k piv (c : Int)).bind fun t225 => (if t225 = true then (impl_Matrix_kernel.l0 k piv (C : Int) (wrap64 ((c : Int) + 1)) p (C : Int) rows0 a b E p (C : Int) acc) else (impl_Matrix_kernel.l1 k piv (c : Int) ((List.replicate C 0).set c 1) (C : Int) (c : Int) piv (piv.length : Int) 0 p (C : Int) rows0 a b E p (C : Int) acc))) (fun k => ?_) (Ev.bind (kIndex_ev piv c hl) ?_)
    · simp only [impl_Matrix_kernel.l0]
      rw [if_pos (by omega), if_pos (by omega), Int.toNat_natCast, if_pos (by omega)]
      simp only [Option.bind_some, List.length_replicate, if_pos (show (0 : Int) ≤ (c : Int) by omega), if_pos (show (c : Int) < (C : Int) by omega), Int.toNat_natCast]
    · cases hcon : piv.contains (c : Int) with
      | true =>
        simp only [if_true, Bool.not_true]
        rw [wr (by omega) (by omega)]
        exact ih (c + 1) acc (by omega) (by omega)
      | false =>
        simp only [Bool.not_false, if_true, Bool.false_eq_true, if_false]
        refine impl_ker_go hp hl hE hlen (by omega) (by omega) hpiv piv.length 0 _ (by omega) (RowP_set (RowP_zero hp.1 C) (by omega) (by omega)) ?_
        rw [wr (by omega) (by omega)]
        have := ih (c + 1) (acc ++ [kerRow p C E piv c]) (by omega) (by simp; omega)
        rw [List.append_assoc] at this
        exact this
def kerR (p : Int) (C : Nat) (rows : List (List Int)) : List (List Int) := kerB p C (echB p C rows).1 (echB p C rows).2
theorem spec_l03Kernel_ev {p : Int} {C : Nat} {rows : List (List Int)} (hp : 2 ≤ p ∧ p ≤ 31) (hC : C ≤ 1000) (hM : MatP p C rows) (hl : rows.length ≤ 1000) : Ev (fun k => spec_l03Kernel.f k p (C : Int) rows) (p, (C : Int), kerR p C rows) := by
  unfold spec_l03Kernel.f
  obtain ⟨m1, m2, m3⟩ := ech_mat hp.1 hM hl
  refine Ev.bind (spec_echelon_ev hp hC hM hl) ?_
  have := spec_ker_loop (rows0 := rows) (a := p) (b := (C : Int)) hp hC (by omega) m1 m2 (ech_piv_at p C rows) C 0 [] (by omega) (by simp)
  rw [← List.range_eq_range'] at this
  exact this
theorem impl_kernel_ev {p : Int} {C : Nat} {rows : List (List Int)} (hp : 2 ≤ p ∧ p ≤ 31) (hC : C ≤ 1000) (hM : MatP p C rows) (hl : rows.length ≤ 1000) : Ev (fun k => impl_Matrix_kernel.f k p (C : Int) rows) (p, (C : Int), kerR p C rows) := by
  unfold impl_Matrix_kernel.f
  obtain ⟨m1, m2, m3⟩ := ech_mat hp.1 hM hl
  refine Ev.bind (impl_echelon_ev hp hC hM hl) ?_
  have := impl_ker_loop (rows0 := rows) (a := p) (b := (C : Int)) hp hC (by omega) m1 m2 (ech_piv_at p C rows) C 0 [] (by omega) (by simp)
  rw [← List.range_eq_range'] at this
  exact this
theorem kerR_size (p : Int) (C : Nat) (rows : List (List Int)) (hp : 2 ≤ p) : (kerR p C rows).length ≤ C ∧ ∀ r ∈ kerR p C rows, r.length = C := by
  refine ⟨?_, fun r hr => ?_⟩
  · unfold kerR kerB
    rw [List.length_map]
    exact Nat.le_trans (List.length_filter_le _ _) (by simp)
  · obtain ⟨c, hc, rfl⟩ := List.mem_map.mp hr
    exact (kerRow_row hp (List.mem_range.mp (List.mem_filter.mp hc).1) (ech_piv_at p C rows)).1
def KernelRes (p cols : Int) (rows : List (List Int)) : Int × Int × List (List Int) × Int := if validMB p cols rows then toldB p cols (kerR p cols.toNat rows) else (0, 0, [], 1)
theorem spec_KernelOf_ev (p cols : Int) (rows : List (List Int)) (hl : rows.length ≤ 4611686018427387904) (hr : ∀ r ∈ rows, r.length ≤ 4611686018427387904) : Ev (fun k => spec_KernelOf.f k p cols rows) (KernelRes p cols rows) := by
  unfold spec_KernelOf.f KernelRes
  refine Ev.bind (spec_l03Ok_ev p cols rows hl hr) ?_
  cases hv : validMB p cols rows with
  | false => exact Ev.now _
  | true =>
    obtain ⟨h1, h2, h3, h4, h5⟩ := MatP_of_valid hv
    simp only [if_true]
    have := spec_l03Kernel_ev h1 (by omega) h5 (by omega)
    rw [h2] at this
    obtain ⟨z1, z2⟩ := kerR_size p cols.toNat rows h1.1
    exact Ev.bind this (Ev.bind (spec_l03Told_ev p cols (kerR p cols.toNat rows) (by omega) (fun r hr => by rw [z2 r hr]; omega)) (Ev.now _))
theorem impl_KernelOf_ev (p cols : Int) (rows : List (List Int)) (hl : rows.length ≤ 4611686018427387904) (hr : ∀ r ∈ rows, r.length ≤ 4611686018427387904) : Ev (fun k => impl_KernelOf.f k p cols rows) (KernelRes p cols rows) := by
  unfold impl_KernelOf.f KernelRes
  refine Ev.bind (impl_ValidMatrix_ev p cols rows hl hr) ?_
  cases hv : validMB p cols rows with
  | false => exact Ev.now _
  | true =>
    obtain ⟨h1, h2, h3, h4, h5⟩ := MatP_of_valid hv
    simp only [if_true]
    have := impl_kernel_ev h1 (by omega) h5 (by omega)
    rw [h2] at this
    obtain ⟨z1, z2⟩ := kerR_size p cols.toNat rows h1.1
    exact Ev.bind this (Ev.bind (impl_matrixOrLimit_ev p cols (kerR p cols.toNat rows) (by omega) (fun r hr => by rw [z2 r hr]; omega)) (Ev.now _))
theorem KernelRes_size (p cols : Int) (rows : List (List Int)) : ∃ a b c d, KernelRes p cols rows = (a, b, c, d) ∧ c.length ≤ 20 ∧ (∀ r ∈ c, r.length ≤ 12) ∧ allLen c ≤ 240 := by
  unfold KernelRes
  split
  · exact toldB_size _ _ _
  · exact ⟨0, 0, [], 1, rfl, by simp, by simp, by simp [allLen]⟩

end Go.Proofs.Ytjpbemomocccaaa.P

/- For every matrix the program's KernelOf and the reference's answer alike, the argument stays, and the result is memory of its own. -/
namespace Go.Proofs.Ytjpbemomocccaaa.Pure
open Go.RowKit Go.Proofs.Ytjpbemomocccaaa.P Go.Proofs.YtjpbemomocccaaaW.PrintWords Go.Proofs.YtjpbemomocccaaaW.PrintLast Go.Proofs.YtjpbemomocccaaaW.PrintMore
set_option linter.unusedVariables false
set_option linter.unusedSimpArgs false

theorem FnExactKernelOf : laws_FnExactKernelOf.Pure := by
  intro x hx
  obtain ⟨xp, xc, xs⟩ := x
  have hl : xs.length ≤ 9223372036854775807 := hx.2.2.1
  have hr : ∀ r ∈ xs, r.length ≤ 9223372036854775807 := fun r h => (hx.2.2.2 r h).1
  have s1 := szMatrix_ev xp xc xs 1048576 (by omega) hl hr
  by_cases h : (bulk xs : Int) ≤ 1048576
  · rw [if_pos h] at s1
    obtain ⟨h1, h2⟩ := bulk_len (rows := xs) (n := 1048576) (by omega)
    have h4 : xs.length ≤ 4611686018427387904 := by omega
    have h3 : ∀ r ∈ xs, r.length ≤ 4611686018427387904 := fun r hr => Nat.le_trans (h2 r hr) (by omega)
    have h5 : allLen xs ≤ 1048576 := by unfold bulk at h; unfold allLen; omega
    obtain ⟨r1, r2, r3, r4, er, z1, z2, z3⟩ : ∃ a b c d, KernelRes xp xc xs = (a, b, c, d) ∧ c.length ≤ 20 ∧ (∀ r ∈ c, r.length ≤ 12) ∧ allLen c ≤ 240 := KernelRes_size xp xc xs
    have z4 : ∀ r ∈ r3, r.length ≤ 1048576 := fun r hr => Nat.le_trans (z2 r hr) (by omega)
    have e1 := spec_KernelOf_ev xp xc xs h4 h3
    have e2 := impl_KernelOf_ev xp xc xs h4 h3
    rw [er] at e1 e2
    obtain ⟨k, a1, a2, a3, a4, a5, a6, a7, a8, a9⟩ := From.now (From.and s1 (From.and (toMatrix_ev xp xc xs h1 h2) (From.and e1 (From.and e2 (From.and (eqMatrix_same r1 r2 r3 (by omega) z4) (From.and (eqMatrix_same xp xc xs h1 h2) (From.and (markMatrix_ev xp xc xs 1 (by omega) (by omega) (by omega)) (From.and (markMatrix_ev r1 r2 r3 1 (by omega) (by omega) (by omega)) (heldMatrix_ev r1 r2 r3 1 (by omega) (by omega) (by omega))))))))))
    exact Or.inr ⟨k, _, r1, r2, r3, r4, _, _, _, _, a1, decide_eq_false (by omega), a2, a3, a2, a4, a5, a2, a6, a7, decide_eq_false (by omega), a5, a8, a9, decide_eq_false (by omega), a2, a4, a5, a9, decide_eq_false (by omega)⟩
  · rw [if_neg h] at s1
    obtain ⟨k, a1⟩ := From.now s1
    exact Or.inl ⟨k, _, a1, by decide⟩

end Go.Proofs.Ytjpbemomocccaaa.Pure

/- The row of the law FnExactKernelOf: whatever its arguments, it answers true, and they read as before. No condition. -/
namespace Go.Proofs.Ytjpbemomocccaaa.fnExactKernelOf
open Go.ChangeShapes Go.WideShapes Go.ChangeAt Go.RowKit Go.Proofs.Ytjpbemomocccaaa.P Go.Proofs.YtjpbemomocccaaaW.PrintWords Go.Proofs.YtjpbemomocccaaaW.PrintLast Go.Proofs.YtjpbemomocccaaaW.PrintMore
open Go.ChangeMaps (open_string shut_string)
set_option linter.unusedVariables false
theorem own : ownKnob Try.prog.godebug = none := by kernel_rfl
theorem laidOut : laidOutB Try.prog = true := by kernel_rfl
set_option maxRecDepth 100000 in
theorem lifted (os : Os) (started : os.Started) (H : Type) (enc : TypeId × Value → H) :
    ReturnsInHanded {} Try.checked os 4 .any (Rows.fnExactKernelOfSpec.pre6 enc Try.prog Try.f4 Rows.fnExactKernelOfRow.domain false) (Rows.fnExactKernelOfSpec.post enc Try.prog Try.f4 false true false false) := by
  refine returnsInHanded_of_change_sized (C := Try.checked) own started (by kernel_rfl) Try.func4
    (ChangeSpec.witness6 (enc := enc) (C := Try.checked) false ⟨#[], #[.agg #[.int .i64 0, .int .i64 0, .slice none 0 0]], []⟩ 8 (by kernel_rfl) (by kernel_rfl) (by kernel_rfl) (by kernel_rfl)) ?_
  intro W base args ds gs before hval0 hW hcnd hsz0 _
  have hval : ∀ (j : Nat) t v, Try.f4.params[j]? = some t → args[j]? = some v → Value.okWide Try.prog W .any base t v := hval0
  have hW' := hW
  obtain ⟨p, q, hA0, hV, rfl, hfz, hnd⟩ := hW
  have hA : DataW.TrodAll enc Try.prog W 0 (fun _ => true) true Try.f4.params.toList args.toList ds p := hA0
  rw [Try.params4] at hA hval
  obtain ⟨v0, vs0, d0, ds0, p0, q0, hargs, rfl, rfl, h0, r0⟩ := trodAll_cons hA
  obtain ⟨rfl, rfl, rfl⟩ := trodAll_nil r0
  obtain rfl : args = #[v0] := by cases args; simp_all
  obtain ⟨rfl, rfl⟩ := trodVars_none hV
  have k0 := h0
  have lt0 : ∀ x ∈ p0, x.block < W.heap.size := by obtain ⟨m, hm⟩ := k0; exact DataW.trod_lt m _ _ _ hm
  obtain ⟨cs0, rfl, _⟩ := okWide_struct Try.underlying24 (hval 0 24 v0 rfl rfl)
  obtain ⟨x0, hK0, wf0⟩ := OpensAt.any opensS24 h0
  obtain ⟨A0_2, c0_2, e0, l0_2, g0_2⟩ := k24_open hK0
  obtain rfl : cs0 = #[.int .i64 x0.f0, .int .i64 x0.f1, .slice A0_2 x0.f2.length c0_2] := by cases cs0; simpa [Value.cells] using e0
  clear hA0 hval0 hsz0
  refine (P.laws_FnExactKernelOf.walk Pure.FnExactKernelOf x0 _ _ W g0_2 l0_2 wf0).mono fun e W' ⟨he, bel⟩ => ?_
  subst he
  exact ⟨_, rfl, _, _, _, [], _, [], hW', trodAll_mk1 (shut_bool Try.underlying4 _), (trodAll_cons_mk (Below.trod laidOut (by kernel_rfl) (of_decide_eq_true (by kernel_rfl)) k0 bel lt0) trodAll_mk0), rfl, bel.frame _, fun h => by cases h⟩
theorem over : Rows.fnExactKernelOfRow.holds Try.pinned (OpenSpec.ofChange Rows.fnExactKernelOfSpec) :=
  OpenClaim.holds_of_wide 4 Try.f4 rfl rfl rfl rfl rfl rfl rfl ⟨rfl, rfl, rfl, rfl, rfl⟩ rfl rfl rfl rfl rfl (by kernel_rfl) Try.func4 (by kernel_rfl)
    (of_decide_eq_true (by kernel_rfl)) (by unfold Func.isWrapper; first | (rw [if_pos (by decide +kernel)]; kernel_rfl) | (rw [if_neg (by decide +kernel)]; exact ⟨rfl, rfl⟩))
    (fun os started H enc _ => lifted os started H enc)
theorem proved : Rows.FnExactKernelOfSaid := over
#print axioms proved
end Go.Proofs.Ytjpbemomocccaaa.fnExactKernelOf
namespace Go.Proofs.Ytjpbemomocccaaa
/-- The row, under a short name, for the claim. -/
theorem fnExactKernelOf_holds : Rows.FnExactKernelOfSaid := fnExactKernelOf.proved
end Go.Proofs.Ytjpbemomocccaaa
