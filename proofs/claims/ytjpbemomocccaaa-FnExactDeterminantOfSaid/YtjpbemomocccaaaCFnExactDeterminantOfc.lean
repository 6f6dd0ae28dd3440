/- For every matrix the program's DeterminantOf and the reference's answer alike, and the argument stays. This text: the theorem of the row, and part 3 of what it rests on. -/
import Derived.Test.YtjpbemomocccaaaCFnExactDeterminantOfb
import Derived.Below
import Derived.Carry
import Derived.ChangeArms
import Derived.ChangeOld
import Derived.Deep.Slices
import Derived.OpenShut
import Derived.ProofKit
import Derived.ShutString
import Derived.SizedLaws
import Derived.Test.YtjpbemomocccaaaRows
import Derived.WalkKit
import Derived.WideShapes
namespace Go.Proofs.Ytjpbemomocccaaa.P
open Go.RowKit Go.Proofs.YtjpbemomocccaaaW.PrintWords Go.Proofs.YtjpbemomocccaaaW.PrintLast Go.Proofs.YtjpbemomocccaaaW.PrintMore
attribute [local go_sem] max2_int min2_int max_two min_two max_three min_three max_four min_four
set_option linter.unusedVariables false
set_option linter.unusedSimpArgs false

/-! ### laws_FnExactDeterminantOf: function 6 (the law's walk, by a program of this session) -/
set_option maxHeartbeats 8000000 in
set_option maxRecDepth 100000 in
theorem laws_FnExactDeterminantOf.way0 (k : Nat) (a0_0 : Int) (a0_1 : Int) (A0_2 : Option Addr) (c0_2 : Nat) (l0_2 : List (List Int)) (s2 : Int) (w : World) (hr0_2 : Kd.C (Kd.slice 2 (Kd.int .i64)) w A0_2 l0_2.length l0_2) (hc0_2 : l0_2.length ≤ c0_2) (A3 : laws_szMatrix.f k a0_0 a0_1 l0_2 1048576 = some s2) (t9 : decide (s2 < 0) = true) :
    Calls Try.prog 6 #[.agg #[.int .i64 a0_0, .int .i64 a0_1, .slice A0_2 l0_2.length c0_2]] w fun e w' => e = .returned (.bool true) ∧ Below w.heap.size w w' := by
  have hu24 := Try.underlying24
  have HR0_2 := Aside0.mk hr0_2
  have HC0_2 := Aside0.mk hc0_2
  clear hr0_2 hc0_2
  have HB := Aside0.mk (Below.refl w.heap.size w)
  replace A3 := Aside0.mk A3
  go_enter Try.func6, Try.ntmps6
  go_wp2_with (first | ((with_reducible refine gate_callee (f := 12) rfl ?_); refine goesL_ (some 11) rfl rfl Try.func12 (by kernel_rfl) rfl #[.agg #[.int .i64 a0_0, .int .i64 a0_1, .slice A0_2 l0_2.length c0_2], .int .i64 1048576] rfl (by (try simp only [List.map_toArray, List.map_cons, List.map_nil]); first | done | rfl | (simp only [List.length_drop, List.length_take]; rfl)) ?_; (with_reducible refine (laws_szMatrix.calls k a0_0 a0_1 _ _ l0_2 1048576 s2 _ ?side1 ?side2 A3.out).mono ?_); (case side1 => exact Kd.C_below HR0_2.out (by repeat (first | (with_reducible first | exact HB.out | apply below_alloc | apply pw_below_drewN | apply below_drew1) | exact HB.out))); (case side2 => exact HC0_2.out); rintro e w1 ⟨rfl, hb⟩; refine ⟨_, rfl, ?_⟩; have n1_ := Aside0.mk (blk_below (g := w.heap.size) (o := .cells #[.int .i64 a0_0, .int .i64 a0_1, .slice A0_2 l0_2.length c0_2] 24 (0, 0)) (by repeat (first | exact blk_new_at (by simp) | (with_reducible refine blk_drewN ?_ _) | (with_reducible refine blk_drew ?_) | (with_reducible refine blk_alloc ?_ _))) hb); have n2_ := Aside0.mk (below_step (by repeat (first | (with_reducible first | exact HB.out | apply below_alloc | apply pw_below_drewN | apply below_drew1) | exact HB.out)) hb); have C4 : Aside0 (w.heap.size + 1 ≤ w1.heap.size) := ⟨by have h_ := hb.size; (try simp at h_); omega⟩; have CC := Aside0.mk C4.out; clear HB; have HX1 := n1_; clear n1_; have HB := n2_; clear n2_; (try clear hb); have hl5 : w.heap.size < w1.heap.size := blk_lt HX1.out; have hx6 : w1.cell? ⟨w.heap.size, 0, none⟩ = some (.int .i64 a0_0) := (blk_cell HX1.out 0).trans rfl; have hx7 : w1.cell? ⟨w.heap.size, 1, none⟩ = some (.int .i64 a0_1) := (blk_cell HX1.out 1).trans rfl; have hx8 : w1.cell? ⟨w.heap.size, 2, none⟩ = some (.slice A0_2 l0_2.length c0_2) := (blk_cell HX1.out 2).trans rfl))
  go_ret
  exact ⟨rfl, by repeat (first | (with_reducible first | exact HB.out | apply below_alloc | apply pw_below_drewN | apply below_drew1) | exact HB.out)⟩
set_option maxHeartbeats 8000000 in
set_option maxRecDepth 100000 in
theorem laws_FnExactDeterminantOf.way1 (k : Nat) (a0_0 : Int) (a0_1 : Int) (A0_2 : Option Addr) (c0_2 : Nat) (l0_2 : List (List Int)) (s2 : Int) (r18 : Int) (r19 : Int) (w : World) (hr0_2 : Kd.C (Kd.slice 2 (Kd.int .i64)) w A0_2 l0_2.length l0_2) (hc0_2 : l0_2.length ≤ c0_2) (A3 : laws_szMatrix.f k a0_0 a0_1 l0_2 1048576 = some s2) (t9 : decide (s2 < 0) = false) (A10 : laws_toMatrix.f k a0_0 a0_1 l0_2 = some (a0_0, a0_1, l0_2)) (A20 : spec_DeterminantOf.f k a0_0 a0_1 l0_2 = some (r18, r19)) (A26 : laws_toMatrix.f k a0_0 a0_1 l0_2 = some (a0_0, a0_1, l0_2)) (A35 : impl_DeterminantOf.f k a0_0 a0_1 l0_2 = some (r18, r19)) (A45 : laws_toMatrix.f k a0_0 a0_1 l0_2 = some (a0_0, a0_1, l0_2)) (A57 : laws_eqMatrix.f k a0_0 a0_1 l0_2 a0_0 a0_1 l0_2 = some true) :
    Calls Try.prog 6 #[.agg #[.int .i64 a0_0, .int .i64 a0_1, .slice A0_2 l0_2.length c0_2]] w fun e w' => e = .returned (.bool true) ∧ Below w.heap.size w w' := by
  have hu24 := Try.underlying24
  have hu26 := Try.underlying26
  have HR0_2 := Aside0.mk hr0_2
  have HC0_2 := Aside0.mk hc0_2
  clear hr0_2 hc0_2
  have HB := Aside0.mk (Below.refl w.heap.size w)
  replace A3 := Aside0.mk A3
  replace A10 := Aside0.mk A10
  replace A20 := Aside0.mk A20
  replace A26 := Aside0.mk A26
  replace A35 := Aside0.mk A35
  replace A45 := Aside0.mk A45
  replace A57 := Aside0.mk A57
  go_enter Try.func6, Try.ntmps6
  go_wp2_with (first | ((with_reducible refine gate_callee (f := 12) rfl ?_); refine goesL_ (some 11) rfl rfl Try.func12 (by kernel_rfl) rfl #[.agg #[.int .i64 a0_0, .int .i64 a0_1, .slice A0_2 l0_2.length c0_2], .int .i64 1048576] rfl (by (try simp only [List.map_toArray, List.map_cons, List.map_nil]); first | done | rfl | (simp only [List.length_drop, List.length_take]; rfl)) ?_; (with_reducible refine (laws_szMatrix.calls k a0_0 a0_1 _ _ l0_2 1048576 s2 _ ?side1 ?side2 A3.out).mono ?_); (case side1 => exact Kd.C_below HR0_2.out (by repeat (first | (with_reducible first | exact HB.out | apply below_alloc | apply pw_below_drewN | apply below_drew1) | exact HB.out))); (case side2 => exact HC0_2.out); rintro e w1 ⟨rfl, hb⟩; refine ⟨_, rfl, ?_⟩; have n1_ := Aside0.mk (blk_below (g := w.heap.size) (o := .cells #[.int .i64 a0_0, .int .i64 a0_1, .slice A0_2 l0_2.length c0_2] 24 (0, 0)) (by repeat (first | exact blk_new_at (by simp) | (with_reducible refine blk_drewN ?_ _) | (with_reducible refine blk_drew ?_) | (with_reducible refine blk_alloc ?_ _))) hb); have n2_ := Aside0.mk (below_step (by repeat (first | (with_reducible first | exact HB.out | apply below_alloc | apply pw_below_drewN | apply below_drew1) | exact HB.out)) hb); have C4 : Aside0 (w.heap.size + 1 ≤ w1.heap.size) := ⟨by have h_ := hb.size; (try simp at h_); omega⟩; have CC := Aside0.mk C4.out; clear HB; have HX1 := n1_; clear n1_; have HB := n2_; clear n2_; (try clear hb); have hl5 : w.heap.size < w1.heap.size := blk_lt HX1.out; have hx6 : w1.cell? ⟨w.heap.size, 0, none⟩ = some (.int .i64 a0_0) := (blk_cell HX1.out 0).trans rfl; have hx7 : w1.cell? ⟨w.heap.size, 1, none⟩ = some (.int .i64 a0_1) := (blk_cell HX1.out 1).trans rfl; have hx8 : w1.cell? ⟨w.heap.size, 2, none⟩ = some (.slice A0_2 l0_2.length c0_2) := (blk_cell HX1.out 2).trans rfl) | ((with_reducible refine gate_callee (f := 14) rfl ?_); refine goesL_ (some 16) rfl rfl Try.func14 (by kernel_rfl) rfl #[.agg #[.int .i64 a0_0, .int .i64 a0_1, .slice A0_2 l0_2.length c0_2]] rfl (by (try simp only [List.map_toArray, List.map_cons, List.map_nil]); first | done | rfl | (simp only [List.length_drop, List.length_take]; rfl)) ?_; (with_reducible refine (laws_toMatrix.calls k a0_0 a0_1 _ _ l0_2 a0_0 a0_1 l0_2 _ ?side1 ?side2 A10.out).mono ?_); (case side1 => exact Kd.C_below HR0_2.out (by repeat (first | (with_reducible first | exact HB.out | apply below_alloc | apply pw_below_drewN | apply below_drew1) | exact HB.out))); (case side2 => exact HC0_2.out); rintro e w2 ⟨v100_, rfl, ho0_, hb⟩; refine ⟨_, rfl, ?_⟩; have n1_ := Aside0.mk (blk_below (g := w.heap.size) (o := .cells #[.int .i64 a0_0, .int .i64 a0_1, .slice A0_2 l0_2.length c0_2] 24 (0, 0)) (by (with_reducible repeat (first | refine blk_drewN ?_ _ | refine blk_drew ?_ | refine blk_alloc ?_ _)); exact HX1.out) hb); have n2_ := Aside0.mk (below_step (by repeat (first | (with_reducible first | exact HB.out | apply below_alloc | apply pw_below_drewN | apply below_drew1) | exact HB.out)) hb); have C11 : Aside0 (w1.heap.size ≤ w2.heap.size) := ⟨by have h_ := hb.size; (try simp at h_); omega⟩; have CCn_ := Aside0.mk (And.intro CC.out C11.out); clear CC; have CC := CCn_; clear CCn_; clear HX1; clear HB; clear hl5; clear hx6; clear hx7; clear hx8; have HX1 := n1_; clear n1_; have HB := n2_; clear n2_; have HO12 := Aside0.mk (Kd.S_lower (base' := w.heap.size) (Kd.S_mono (Kd.S_bound ho0_) (ok' := fun k_ => w1.heap.size ≤ k_ ∧ k_ < w2.heap.size) (fun k_ hk_ => ⟨by have h_ := hk_.2.1; (try simp at h_); omega, hk_.2.2.1⟩)) (by have := CC.out; first | omega | (simp; done) | (simp; omega))); obtain ⟨Az13, cz13, ez13⟩ := Kd.S_slice HO12.out; subst ez13; (try clear hb); (try clear ho0_); have hl14 : w.heap.size < w2.heap.size := blk_lt HX1.out; have hx15 : w2.cell? ⟨w.heap.size, 0, none⟩ = some (.int .i64 a0_0) := (blk_cell HX1.out 0).trans rfl; have hx16 : w2.cell? ⟨w.heap.size, 1, none⟩ = some (.int .i64 a0_1) := (blk_cell HX1.out 1).trans rfl; have hx17 : w2.cell? ⟨w.heap.size, 2, none⟩ = some (.slice A0_2 l0_2.length c0_2) := (blk_cell HX1.out 2).trans rfl) | ((with_reducible refine gate_callee (f := 23) rfl ?_); refine goesL_ (some 17) rfl rfl Try.func23 (by kernel_rfl) rfl #[.agg #[.int .i64 a0_0, .int .i64 a0_1, .slice Az13 l0_2.length cz13]] rfl (by (try simp only [List.map_toArray, List.map_cons, List.map_nil]); first | done | rfl | (simp only [List.length_drop, List.length_take]; rfl)) ?_; (with_reducible refine (spec_DeterminantOf.calls k a0_0 a0_1 _ _ l0_2 r18 r19 _ ?side1 ?side2 A20.out).mono ?_); (case side1 => exact (Kd.S_reads' (n := l0_2.length) (A := Az13) (c := cz13) (by (with_reducible repeat (first | apply Kd.S_alloc | apply Kd.S_drewN | apply Kd.S_drew)); exact HO12.out)).2.2); (case side2 => exact (Kd.S_reads' (n := l0_2.length) (A := Az13) (c := cz13) HO12.out).2.1); rintro e w3 ⟨rfl, hb⟩; refine ⟨_, rfl, ?_⟩; have n1_ := Aside0.mk (Kd.S_below (by (with_reducible repeat (first | apply Kd.S_alloc | apply Kd.S_drewN | apply Kd.S_drew)); exact HO12.out) hb); have n2_ := Aside0.mk (blk_below (g := w.heap.size) (o := .cells #[.int .i64 a0_0, .int .i64 a0_1, .slice A0_2 l0_2.length c0_2] 24 (0, 0)) (by (with_reducible repeat (first | refine blk_drewN ?_ _ | refine blk_drew ?_ | refine blk_alloc ?_ _)); exact HX1.out) hb); have n3_ := Aside0.mk (below_step (by repeat (first | (with_reducible first | exact HB.out | apply below_alloc | apply pw_below_drewN | apply below_drew1) | exact HB.out)) hb); have C21 : Aside0 (w2.heap.size ≤ w3.heap.size) := ⟨by have h_ := hb.size; (try simp at h_); omega⟩; have CCn_ := Aside0.mk (And.intro CC.out C21.out); clear CC; have CC := CCn_; clear CCn_; clear HO12; clear HX1; clear HB; clear hl14; clear hx15; clear hx16; clear hx17; have HO12 := n1_; clear n1_; have HX1 := n2_; clear n2_; have HB := n3_; clear n3_; (try clear hb); have hl22 : w.heap.size < w3.heap.size := blk_lt HX1.out; have hx23 : w3.cell? ⟨w.heap.size, 0, none⟩ = some (.int .i64 a0_0) := (blk_cell HX1.out 0).trans rfl; have hx24 : w3.cell? ⟨w.heap.size, 1, none⟩ = some (.int .i64 a0_1) := (blk_cell HX1.out 1).trans rfl; have hx25 : w3.cell? ⟨w.heap.size, 2, none⟩ = some (.slice A0_2 l0_2.length c0_2) := (blk_cell HX1.out 2).trans rfl) | ((with_reducible refine gate_callee (f := 14) rfl ?_); refine goesL_ (some 21) rfl rfl Try.func14 (by kernel_rfl) rfl #[.agg #[.int .i64 a0_0, .int .i64 a0_1, .slice A0_2 l0_2.length c0_2]] rfl (by (try simp only [List.map_toArray, List.map_cons, List.map_nil]); first | done | rfl | (simp only [List.length_drop, List.length_take]; rfl)) ?_; (with_reducible refine (laws_toMatrix.calls k a0_0 a0_1 _ _ l0_2 a0_0 a0_1 l0_2 _ ?side1 ?side2 A26.out).mono ?_); (case side1 => exact Kd.C_below HR0_2.out (by repeat (first | (with_reducible first | exact HB.out | apply below_alloc | apply pw_below_drewN | apply below_drew1) | exact HB.out))); (case side2 => exact HC0_2.out); rintro e w4 ⟨v100_, rfl, ho0_, hb⟩; refine ⟨_, rfl, ?_⟩; have n1_ := Aside0.mk (blk_below (g := w.heap.size) (o := .cells #[.int .i64 a0_0, .int .i64 a0_1, .slice A0_2 l0_2.length c0_2] 24 (0, 0)) (by (with_reducible repeat (first | refine blk_drewN ?_ _ | refine blk_drew ?_ | refine blk_alloc ?_ _)); exact HX1.out) hb); have n2_ := Aside0.mk (below_step (by repeat (first | (with_reducible first | exact HB.out | apply below_alloc | apply pw_below_drewN | apply below_drew1) | exact HB.out)) hb); have C27 : Aside0 (w3.heap.size ≤ w4.heap.size) := ⟨by have h_ := hb.size; (try simp at h_); omega⟩; have CCn_ := Aside0.mk (And.intro CC.out C27.out); clear CC; have CC := CCn_; clear CCn_; clear HX1; clear HB; clear hl22; clear hx23; clear hx24; clear hx25; have HX1 := n1_; clear n1_; have HB := n2_; clear n2_; have HO28 := Aside0.mk (Kd.S_lower (base' := w.heap.size) (Kd.S_mono (Kd.S_bound ho0_) (ok' := fun k_ => w3.heap.size ≤ k_ ∧ k_ < w4.heap.size) (fun k_ hk_ => ⟨by have h_ := hk_.2.1; (try simp at h_); omega, hk_.2.2.1⟩)) (by have := CC.out; first | omega | (simp; done) | (simp; omega))); obtain ⟨Az29, cz29, ez29⟩ := Kd.S_slice HO28.out; subst ez29; (try clear hb); (try clear ho0_); have hl30 : w.heap.size < w4.heap.size := blk_lt HX1.out; have hx31 : w4.cell? ⟨w.heap.size, 0, none⟩ = some (.int .i64 a0_0) := (blk_cell HX1.out 0).trans rfl; have hx32 : w4.cell? ⟨w.heap.size, 1, none⟩ = some (.int .i64 a0_1) := (blk_cell HX1.out 1).trans rfl; have hx33 : w4.cell? ⟨w.heap.size, 2, none⟩ = some (.slice A0_2 l0_2.length c0_2) := (blk_cell HX1.out 2).trans rfl) | ((with_reducible refine gate_callee (f := 24) rfl ?_); refine goesL_ (some 24) rfl rfl Try.func24 (by kernel_rfl) rfl #[.agg #[.int .i64 a0_0, .int .i64 a0_1, .slice Az29 l0_2.length cz29]] rfl (by (try simp only [List.map_toArray, List.map_cons, List.map_nil]); first | done | rfl | (simp only [List.length_drop, List.length_take]; rfl)) ?_; (with_reducible refine (impl_DeterminantOf.calls k a0_0 a0_1 _ _ l0_2 r18 r19 _ ?side1 ?side2 A35.out).mono ?_); (case side1 => exact (Kd.S_reads' (n := l0_2.length) (A := Az29) (c := cz29) (by (with_reducible repeat (first | apply Kd.S_alloc | apply Kd.S_drewN | apply Kd.S_drew)); exact HO28.out)).2.2); (case side2 => exact (Kd.S_reads' (n := l0_2.length) (A := Az29) (c := cz29) HO28.out).2.1); rintro e w5 ⟨rfl, hb⟩; refine ⟨_, rfl, ?_⟩; have n1_ := Aside0.mk (Kd.S_below (by (with_reducible repeat (first | apply Kd.S_alloc | apply Kd.S_drewN | apply Kd.S_drew)); exact HO28.out) hb); have n2_ := Aside0.mk (blk_below (g := w.heap.size) (o := .cells #[.int .i64 a0_0, .int .i64 a0_1, .slice A0_2 l0_2.length c0_2] 24 (0, 0)) (by (with_reducible repeat (first | refine blk_drewN ?_ _ | refine blk_drew ?_ | refine blk_alloc ?_ _)); exact HX1.out) hb); have n3_ := Aside0.mk (blk_below (g := w4.heap.size) (o := .cells #[.int .i64 a0_0, .int .i64 a0_1, .slice Az29 l0_2.length cz29] 26 (0, 0)) (by repeat (first | exact blk_new_at (by simp) | (with_reducible refine blk_drewN ?_ _) | (with_reducible refine blk_drew ?_) | (with_reducible refine blk_alloc ?_ _))) hb); have n4_ := Aside0.mk (below_step (by repeat (first | (with_reducible first | exact HB.out | apply below_alloc | apply pw_below_drewN | apply below_drew1) | exact HB.out)) hb); have C36 : Aside0 (w4.heap.size + 1 ≤ w5.heap.size) := ⟨by have h_ := hb.size; (try simp at h_); omega⟩; have CCn_ := Aside0.mk (And.intro CC.out C36.out); clear CC; have CC := CCn_; clear CCn_; clear HO28; clear HX1; clear HB; clear hl30; clear hx31; clear hx32; clear hx33; have HO28 := n1_; clear n1_; have HX1 := n2_; clear n2_; have HX34 := n3_; clear n3_; have HB := n4_; clear n4_; (try clear hb); have hl37 : w.heap.size < w5.heap.size := blk_lt HX1.out; have hx38 : w5.cell? ⟨w.heap.size, 0, none⟩ = some (.int .i64 a0_0) := (blk_cell HX1.out 0).trans rfl; have hx39 : w5.cell? ⟨w.heap.size, 1, none⟩ = some (.int .i64 a0_1) := (blk_cell HX1.out 1).trans rfl; have hx40 : w5.cell? ⟨w.heap.size, 2, none⟩ = some (.slice A0_2 l0_2.length c0_2) := (blk_cell HX1.out 2).trans rfl; have hl41 : w4.heap.size < w5.heap.size := blk_lt HX34.out; have hx42 : w5.cell? ⟨w4.heap.size, 0, none⟩ = some (.int .i64 a0_0) := (blk_cell HX34.out 0).trans rfl; have hx43 : w5.cell? ⟨w4.heap.size, 1, none⟩ = some (.int .i64 a0_1) := (blk_cell HX34.out 1).trans rfl; have hx44 : w5.cell? ⟨w4.heap.size, 2, none⟩ = some (.slice Az29 l0_2.length cz29) := (blk_cell HX34.out 2).trans rfl))
  go_region_held3 (fun w' => w'.cell? ⟨w4.heap.size, 0, none⟩ = some (.int .i64 a0_0) ∧ w'.cell? ⟨w4.heap.size, 1, none⟩ = some (.int .i64 a0_1) ∧ w'.cell? ⟨w4.heap.size, 2, none⟩ = some (.slice Az29 l0_2.length cz29) ∧ w'.cell? ⟨w.heap.size, 0, none⟩ = some (.int .i64 a0_0) ∧ w'.cell? ⟨w.heap.size, 1, none⟩ = some (.int .i64 a0_1) ∧ w'.cell? ⟨w.heap.size, 2, none⟩ = some (.slice A0_2 l0_2.length c0_2)) (first | ((repeat' apply And.intro) <;> assumption) | go_keep) (first | (go_at_call 14; (with_reducible refine (laws_toMatrix.calls k a0_0 a0_1 _ _ l0_2 a0_0 a0_1 l0_2 _ ?side1 ?side2 A45.out).mono ?_); (case side1 => exact Kd.C_below HR0_2.out (by repeat (first | (with_reducible first | exact HB.out | apply below_alloc | apply pw_below_drewN | apply below_drew1) | exact HB.out))); (case side2 => exact HC0_2.out); rintro e w6 ⟨v100_, rfl, ho0_, hb⟩; have n1_ := Aside0.mk (Kd.S_below (by (with_reducible repeat (first | apply Kd.S_alloc | apply Kd.S_drewN | apply Kd.S_drew)); exact HO28.out) hb); have n2_ := Aside0.mk (blk_below (g := w.heap.size) (o := .cells #[.int .i64 a0_0, .int .i64 a0_1, .slice A0_2 l0_2.length c0_2] 24 (0, 0)) (by (with_reducible repeat (first | refine blk_drewN ?_ _ | refine blk_drew ?_ | refine blk_alloc ?_ _)); exact HX1.out) hb); have n3_ := Aside0.mk (blk_below (g := w4.heap.size) (o := .cells #[.int .i64 a0_0, .int .i64 a0_1, .slice Az29 l0_2.length cz29] 26 (0, 0)) (by (with_reducible repeat (first | refine blk_drewN ?_ _ | refine blk_drew ?_ | refine blk_alloc ?_ _)); exact HX34.out) hb); have n4_ := Aside0.mk (below_step (by repeat (first | (with_reducible first | exact HB.out | apply below_alloc | apply pw_below_drewN | apply below_drew1) | exact HB.out)) hb); have C46 : Aside0 (w5.heap.size ≤ w6.heap.size) := ⟨by have h_ := hb.size; (try simp at h_); omega⟩; have CCn_ := Aside0.mk (And.intro CC.out C46.out); clear CC; have CC := CCn_; clear CCn_; clear HO28; clear HX1; clear HX34; clear HB; clear hl37; clear hx38; clear hx39; clear hx40; clear hl41; clear hx42; clear hx43; clear hx44; have HO28 := n1_; clear n1_; have HX1 := n2_; clear n2_; have HX34 := n3_; clear n3_; have HB := n4_; clear n4_; have HO47 := Aside0.mk (Kd.S_lower (base' := w.heap.size) (Kd.S_mono (Kd.S_bound ho0_) (ok' := fun k_ => w5.heap.size ≤ k_ ∧ k_ < w6.heap.size) (fun k_ hk_ => ⟨by have h_ := hk_.2.1; (try simp at h_); omega, hk_.2.2.1⟩)) (by have := CC.out; first | omega | (simp; done) | (simp; omega))); obtain ⟨Az48, cz48, ez48⟩ := Kd.S_slice HO47.out; subst ez48; (try clear hb); (try clear ho0_); have hl49 : w.heap.size < w6.heap.size := blk_lt HX1.out; have hx50 : w6.cell? ⟨w.heap.size, 0, none⟩ = some (.int .i64 a0_0) := (blk_cell HX1.out 0).trans rfl; have hx51 : w6.cell? ⟨w.heap.size, 1, none⟩ = some (.int .i64 a0_1) := (blk_cell HX1.out 1).trans rfl; have hx52 : w6.cell? ⟨w.heap.size, 2, none⟩ = some (.slice A0_2 l0_2.length c0_2) := (blk_cell HX1.out 2).trans rfl; have hl53 : w4.heap.size < w6.heap.size := blk_lt HX34.out; have hx54 : w6.cell? ⟨w4.heap.size, 0, none⟩ = some (.int .i64 a0_0) := (blk_cell HX34.out 0).trans rfl; have hx55 : w6.cell? ⟨w4.heap.size, 1, none⟩ = some (.int .i64 a0_1) := (blk_cell HX34.out 1).trans rfl; have hx56 : w6.cell? ⟨w4.heap.size, 2, none⟩ = some (.slice Az29 l0_2.length cz29) := (blk_cell HX34.out 2).trans rfl) | (go_at_call 16; (with_reducible refine (laws_eqMatrix.calls k a0_0 a0_1 _ _ l0_2 a0_0 a0_1 _ _ l0_2 true _ ?side1 ?side2 ?side3 ?side4 A57.out).mono ?_); (case side1 => exact (Kd.S_reads' (n := l0_2.length) (A := Az29) (c := cz29) (by (with_reducible repeat (first | apply Kd.S_alloc | apply Kd.S_drewN | apply Kd.S_drew)); exact HO28.out)).2.2); (case side2 => exact (Kd.S_reads' (n := l0_2.length) (A := Az29) (c := cz29) HO28.out).2.1); (case side3 => exact (Kd.S_reads' (n := l0_2.length) (A := Az48) (c := cz48) (by (with_reducible repeat (first | apply Kd.S_alloc | apply Kd.S_drewN | apply Kd.S_drew)); exact HO47.out)).2.2); (case side4 => exact (Kd.S_reads' (n := l0_2.length) (A := Az48) (c := cz48) HO47.out).2.1); rintro e w7 ⟨rfl, hb⟩; have n1_ := Aside0.mk (Kd.S_below (by (with_reducible repeat (first | apply Kd.S_alloc | apply Kd.S_drewN | apply Kd.S_drew)); exact HO28.out) hb); have n2_ := Aside0.mk (Kd.S_below (by (with_reducible repeat (first | apply Kd.S_alloc | apply Kd.S_drewN | apply Kd.S_drew)); exact HO47.out) hb); have n3_ := Aside0.mk (blk_below (g := w.heap.size) (o := .cells #[.int .i64 a0_0, .int .i64 a0_1, .slice A0_2 l0_2.length c0_2] 24 (0, 0)) (by (with_reducible repeat (first | refine blk_drewN ?_ _ | refine blk_drew ?_ | refine blk_alloc ?_ _)); exact HX1.out) hb); have n4_ := Aside0.mk (blk_below (g := w4.heap.size) (o := .cells #[.int .i64 a0_0, .int .i64 a0_1, .slice Az29 l0_2.length cz29] 26 (0, 0)) (by (with_reducible repeat (first | refine blk_drewN ?_ _ | refine blk_drew ?_ | refine blk_alloc ?_ _)); exact HX34.out) hb); have n5_ := Aside0.mk (below_step (by repeat (first | (with_reducible first | exact HB.out | apply below_alloc | apply pw_below_drewN | apply below_drew1) | exact HB.out)) hb); have C58 : Aside0 (w6.heap.size ≤ w7.heap.size) := ⟨by have h_ := hb.size; (try simp at h_); omega⟩; have CCn_ := Aside0.mk (And.intro CC.out C58.out); clear CC; have CC := CCn_; clear CCn_; clear HO28; clear HO47; clear HX1; clear HX34; clear HB; clear hl49; clear hx50; clear hx51; clear hx52; clear hl53; clear hx54; clear hx55; clear hx56; have HO28 := n1_; clear n1_; have HO47 := n2_; clear n2_; have HX1 := n3_; clear n3_; have HX34 := n4_; clear n4_; have HB := n5_; clear n5_; (try clear hb); have hl59 : w.heap.size < w7.heap.size := blk_lt HX1.out; have hx60 : w7.cell? ⟨w.heap.size, 0, none⟩ = some (.int .i64 a0_0) := (blk_cell HX1.out 0).trans rfl; have hx61 : w7.cell? ⟨w.heap.size, 1, none⟩ = some (.int .i64 a0_1) := (blk_cell HX1.out 1).trans rfl; have hx62 : w7.cell? ⟨w.heap.size, 2, none⟩ = some (.slice A0_2 l0_2.length c0_2) := (blk_cell HX1.out 2).trans rfl; have hl63 : w4.heap.size < w7.heap.size := blk_lt HX34.out; have hx64 : w7.cell? ⟨w4.heap.size, 0, none⟩ = some (.int .i64 a0_0) := (blk_cell HX34.out 0).trans rfl; have hx65 : w7.cell? ⟨w4.heap.size, 1, none⟩ = some (.int .i64 a0_1) := (blk_cell HX34.out 1).trans rfl; have hx66 : w7.cell? ⟨w4.heap.size, 2, none⟩ = some (.slice Az29 l0_2.length cz29) := (blk_cell HX34.out 2).trans rfl))
  go_wp2
  go_ret
  exact ⟨rfl, by repeat (first | (with_reducible first | exact HB.out | apply below_alloc | apply pw_below_drewN | apply below_drew1) | exact HB.out)⟩

end Go.Proofs.Ytjpbemomocccaaa.P

namespace Go.Proofs.Ytjpbemomocccaaa.P
open Go.RowKit Go.Proofs.YtjpbemomocccaaaW.PrintWords Go.Proofs.YtjpbemomocccaaaW.PrintLast Go.Proofs.YtjpbemomocccaaaW.PrintMore
attribute [local go_sem] max2_int min2_int max_two min_two max_three min_three max_four min_four
set_option linter.unusedVariables false
set_option linter.unusedSimpArgs false

section
variable {H : Type} {enc : TypeId × Value → H} {P : Program} {w : World} {base : Nat} {held : Bool} {α : Type}
/-- Whatever reads as a datum of type t (at this depth) is a value of kind d. -/
def OpensAt (enc : TypeId × Value → H) (P : Program) (w : World) (base : Nat) (held : Bool) (n : Nat) (t : TypeId) (d : Kd α) (wf : α → Prop) : Prop :=
  ∀ cs x, DataW.trod enc P w base (fun _ => true) held n t cs = some x → ∃ a, d.K w a cs ∧ wf a
theorem opens_int (n : Nat) {t : TypeId} {k : IntKind} (ht : P.underlying t = some (.int k)) : OpensAt enc P w base held n t (Kd.int k) (fun a => (Lit.int k a).wf = true) := fun cs x h => by
  obtain ⟨a, rfl, _, hw⟩ := DataW.trod_int ht h
  exact ⟨a, rfl, hw⟩
theorem list_upto {Q : Nat → α → Prop} : ∀ n, (∀ i, i < n → ∃ y, Q i y) → ∃ xs : List α, xs.length = n ∧ ∀ (i : Nat) (y : α), xs[i]? = some y → Q i y
  | 0, _ => ⟨[], rfl, fun i y h => by simp at h⟩
  | n + 1, h => by
    obtain ⟨xs, hl, hx⟩ := list_upto n (fun i hi => h i (by omega))
    obtain ⟨y, hy⟩ := h n (by omega)
    refine ⟨xs ++ [y], by simp [hl], fun i z hz => ?_⟩
    by_cases e : i < xs.length
    · rw [List.getElem?_append_left e] at hz
      exact hx i z hz
    · rw [List.getElem?_append_right (by omega)] at hz
      have : i - xs.length = 0 := by
        have := (List.getElem?_eq_some_iff.1 hz).1
        simp at this
        omega
      rw [this] at hz
      obtain rfl : y = z := by simpa using hz
      obtain rfl : i = n := by omega
      exact hy
theorem opens_slice (n : Nat) {t e : TypeId} {d : Kd α} {wf : α → Prop} (ht : P.underlying t = some (.slice e)) (hc : P.cellsOf e = d.sz) (he : OpensAt enc P w base held n e d wf) :
    OpensAt enc P w base held (n + 1) t (Kd.slice e d) (fun xs => xs.length ≤ 9223372036854775807 ∧ ∀ x ∈ xs, wf x) := fun cs x h => by
  rcases DataW.trod_slice ht h with ⟨rfl, _⟩ | ⟨a, len, cap, elems, rest, m, hn, rfl, _, _, hl, hm, hlen, hel, _, _⟩
  · exact ⟨[], ⟨none, 0, rfl, Nat.le_refl _, ⟨rfl, by simp, fun h => absurd h (by simp)⟩⟩, by simp⟩
  · obtain rfl : n = m := by omega
    obtain ⟨xs, hxl, hx⟩ := list_upto (Q := fun i y => (∃ c : List Value, c.length = d.sz ∧ d.K w y c ∧ ∀ j u, c[j]? = some u → w.cell? (a.add (i * d.sz + j)) = some u) ∧ wf y) len (fun i hi => by
      have h1 := hel i hi
      rw [List.getElem?_eq_getElem (by omega)] at h1
      obtain ⟨c, hc1, hc2⟩ := Option.bind_eq_some_iff.1 h1
      obtain ⟨y, hy, hw⟩ := he c _ hc2
      obtain ⟨_, hcl, hcc⟩ := World.cells?_some hc1
      refine ⟨y, ⟨c, by rw [hcl, hc], hy, fun j u hu => ?_⟩, hw⟩
      have hj : j < P.cellsOf e := by rw [← hcl]; exact (List.getElem?_eq_some_iff.1 hu).1
      have h2 := hcc j hj
      rw [hu, hc] at h2
      rw [← h2, Addr.add_add])
    subst hxl
    unfold maxLen at hm
    refine ⟨xs, ⟨some a, cap, rfl, hl, ⟨rfl, by omega, fun _ => ⟨a, rfl, fun j p hj => (hx j p hj).1⟩⟩⟩, by omega, fun y hy => ?_⟩
    obtain ⟨i, hi⟩ := List.mem_iff_getElem?.1 hy
    exact (hx i y hi).2
/-- At any depth. -/
theorem OpensAt.any {t : TypeId} {d : Kd α} {wf : α → Prop} (h : ∀ n, OpensAt enc P w base held n t d wf) {v : Value} {y : DataW H} {p : List MemPlace} (hv : DataW.Trod enc P w base (fun _ => true) held t v y p) : ∃ a, d.K w a v.cells.toList ∧ wf a := by
  obtain ⟨fuel, hf⟩ := hv
  exact h fuel _ _ hf
theorem opens_slice_any {t e : TypeId} {d : Kd α} {wf : α → Prop} (ht : P.underlying t = some (.slice e)) (hc : P.cellsOf e = d.sz) (he : ∀ n, OpensAt enc P w base held n e d wf) : ∀ n, OpensAt enc P w base held n t (Kd.slice e d) (fun xs => xs.length ≤ 9223372036854775807 ∧ ∀ x ∈ xs, wf x)
  | 0 => fun cs x h => by simp [DataW.trod] at h
  | n + 1 => opens_slice n ht hc (he n)
end

end Go.Proofs.Ytjpbemomocccaaa.P

namespace Go.Proofs.Ytjpbemomocccaaa.P
open Go.RowKit Go.Proofs.YtjpbemomocccaaaW.PrintWords Go.Proofs.YtjpbemomocccaaaW.PrintLast Go.Proofs.YtjpbemomocccaaaW.PrintMore
attribute [local go_sem] max2_int min2_int max_two min_two max_three min_three max_four min_four
set_option linter.unusedVariables false
set_option linter.unusedSimpArgs false

def wfS24 (x : S24) : Prop := ((Lit.int .i64 x.f0).wf = true) ∧ ((Lit.int .i64 x.f1).wf = true) ∧ (x.f2.length ≤ 9223372036854775807 ∧ ∀ y12_ ∈ x.f2, y12_.length ≤ 9223372036854775807 ∧ ∀ y7_ ∈ y12_, (Lit.int .i64 y7_).wf = true)
theorem list_of_24 {α : Type} {l : List α} (h : l.length = 3) : ∃ c0 c1 c2, l = [c0, c1, c2] := by
  match l, h with
  | [c0, c1, c2], _ => exact ⟨c0, c1, c2, rfl⟩
theorem opensS24 {H : Type} {enc : TypeId × Value → H} {w : World} {base : Nat} {held : Bool} : ∀ n, OpensAt enc Try.prog w base held n 24 k24 wfS24
  | 0 => fun cs x h => by simp [DataW.trod] at h
  | n + 1 => fun cs x h => by
    obtain ⟨xs, m, hm, _, hl, hlen, hf⟩ := DataW.trod_struct Try.underlying24 h
    obtain rfl : n = m := by omega
    rw [show Try.prog.cellsOf 24 = 3 from by kernel_rfl] at hl
    obtain ⟨c0, c1, c2, rfl⟩ := list_of_24 hl
    have h0 : DataW.trod enc Try.prog w base (fun _ => true) held (n) 2 [c0] = xs[0]? := by
        have q := hf 0 _ rfl
        simpa [show Try.prog.cellsOf 2 = 1 from by kernel_rfl] using q
    rw [List.getElem?_eq_getElem (by rw [hlen]; decide)] at h0
    obtain ⟨a0, e0, w0⟩ := (fun n => opens_int n Try.underlying2) (n) _ _ h0
    cases e0
    have h1 : DataW.trod enc Try.prog w base (fun _ => true) held (n) 2 [c1] = xs[1]? := by
        have q := hf 1 _ rfl
        simpa [show Try.prog.cellsOf 2 = 1 from by kernel_rfl] using q
    rw [List.getElem?_eq_getElem (by rw [hlen]; decide)] at h1
    obtain ⟨a1, e1, w1⟩ := (fun n => opens_int n Try.underlying2) (n) _ _ h1
    cases e1
    have h2 : DataW.trod enc Try.prog w base (fun _ => true) held (n) 22 [c2] = xs[2]? := by
        have q := hf 2 _ rfl
        simpa [show Try.prog.cellsOf 22 = 1 from by kernel_rfl] using q
    rw [List.getElem?_eq_getElem (by rw [hlen]; decide)] at h2
    obtain ⟨a2, ⟨A2, n2, e2, l2, g2⟩, w2⟩ := (opens_slice_any Try.underlying22 (by kernel_rfl) (opens_slice_any Try.underlying35 (by kernel_rfl) (fun n => opens_int n Try.underlying2))) (n) _ _ h2
    cases e2
    exact ⟨⟨a0, a1, a2⟩, k24_mk w ⟨a0, a1, a2⟩ l2 g2, w0, w1, w2⟩

end Go.Proofs.Ytjpbemomocccaaa.P

namespace Go.Proofs.Ytjpbemomocccaaa.P
open Go.RowKit Go.Proofs.YtjpbemomocccaaaW.PrintWords Go.Proofs.YtjpbemomocccaaaW.PrintLast Go.Proofs.YtjpbemomocccaaaW.PrintMore
attribute [local go_sem] max2_int min2_int max_two min_two max_three min_three max_four min_four
set_option linter.unusedVariables false
set_option linter.unusedSimpArgs false

def laws_FnExactDeterminantOf.Way0 (x0 : S24) : Prop := ∃ k : Nat, ∃ (s2 : Int), (laws_szMatrix.f k x0.f0 x0.f1 x0.f2 1048576 = some s2) ∧ (decide (s2 < 0) = true)
def laws_FnExactDeterminantOf.Way1 (x0 : S24) : Prop := ∃ k : Nat, ∃ (s2 : Int) (r18 : Int) (r19 : Int), (laws_szMatrix.f k x0.f0 x0.f1 x0.f2 1048576 = some s2) ∧ (decide (s2 < 0) = false) ∧ (laws_toMatrix.f k x0.f0 x0.f1 x0.f2 = some (x0.f0, x0.f1, x0.f2)) ∧ (spec_DeterminantOf.f k x0.f0 x0.f1 x0.f2 = some (r18, r19)) ∧ (laws_toMatrix.f k x0.f0 x0.f1 x0.f2 = some (x0.f0, x0.f1, x0.f2)) ∧ (impl_DeterminantOf.f k x0.f0 x0.f1 x0.f2 = some (r18, r19)) ∧ (laws_toMatrix.f k x0.f0 x0.f1 x0.f2 = some (x0.f0, x0.f1, x0.f2)) ∧ (laws_eqMatrix.f k x0.f0 x0.f1 x0.f2 x0.f0 x0.f1 x0.f2 = some true)
def laws_FnExactDeterminantOf.Pure : Prop := ∀ (x0 : S24), wfS24 x0 → laws_FnExactDeterminantOf.Way0 x0 ∨ laws_FnExactDeterminantOf.Way1 x0
theorem laws_FnExactDeterminantOf.walk (P : laws_FnExactDeterminantOf.Pure) (x0 : S24) (A0_2 : Option Addr) (c0_2 : Nat) (w : World) (hr0_2 : Kd.C (Kd.slice 2 (Kd.int .i64)) w A0_2 x0.f2.length x0.f2) (hc0_2 : x0.f2.length ≤ c0_2) (wf0 : wfS24 x0) :
    Calls Try.prog 6 #[.agg #[.int .i64 x0.f0, .int .i64 x0.f1, .slice A0_2 x0.f2.length c0_2]] w fun e w' => e = .returned (.bool true) ∧ Below w.heap.size w w' := by
  rcases P x0 wf0 with h | h
  · obtain ⟨k, s2, A3, t9⟩ := h
    exact laws_FnExactDeterminantOf.way0 k x0.f0 x0.f1 _ _ x0.f2 s2 w hr0_2 hc0_2 A3 t9
  · obtain ⟨k, s2, r18, r19, A3, t9, A10, A20, A26, A35, A45, A57⟩ := h
    exact laws_FnExactDeterminantOf.way1 k x0.f0 x0.f1 _ _ x0.f2 s2 r18 r19 w hr0_2 hc0_2 A3 t9 A10 A20 A26 A35 A45 A57

end Go.Proofs.Ytjpbemomocccaaa.P

namespace Go.Proofs.Ytjpbemomocccaaa.P
open Go.RowKit Go.Proofs.YtjpbemomocccaaaW.PrintWords Go.Proofs.YtjpbemomocccaaaW.PrintLast Go.Proofs.YtjpbemomocccaaaW.PrintMore
attribute [local go_sem] max2_int min2_int max_two min_two max_three min_three max_four min_four
set_option linter.unusedVariables false
set_option linter.unusedSimpArgs false

theorem toInt64S_loop (l : List Int) (hl : l.length ≤ 1048576) : ∀ (d i : Nat), i + d = l.length → Ev (fun k => laws_toInt64S.l0 k l (l.take i ++ List.replicate d 0) (i : Int)) l := by
  intro d
  induction d with
  | zero =>
    intro i hi
    refine Ev.step (f := fun _ => some l) (fun k => ?_) (Ev.now _)
    simp only [laws_toInt64S.l0]
    rw [if_neg (by omega)]
    simp [List.take_of_length_le (show l.length ≤ i by omega)]
  | succ d ih =>
    intro i hi
    have hlt : i < l.length := by omega
    refine Ev.step (fun k => ?_) (ih (i + 1) (by omega))
    simp only [laws_toInt64S.l0]
    rw [if_pos (by omega), if_pos (by omega), if_pos (by simp; omega), wr (by omega) (by omega), rd_nat l i hlt]
    have e : (l.take i ++ List.replicate (d + 1) 0).set ((i : Int)).toNat l[i] = l.take (i + 1) ++ List.replicate d 0 := by
      have e0 : (l.take i).length = i := by rw [List.length_take]; omega
      rw [Int.toNat_natCast, List.set_append_right _ _ (by omega), e0, Nat.sub_self, List.replicate_succ, List.set_cons_zero, List.take_succ_eq_append_getElem hlt, List.append_assoc]
      rfl
    rw [e]
    rfl
theorem toInt64S_ev (l : List Int) (hl : l.length ≤ 1048576) : Ev (fun k => laws_toInt64S.f k l) l := by
  unfold laws_toInt64S.f
  simp only [if_pos (show (0 : Int) ≤ (l.length : Int) by omega), if_pos (show ((l.length : Int)).toNat ≤ 35184372088832 by omega)]
  have := toInt64S_loop l hl l.length 0 (by omega)
  rw [List.take_zero, List.nil_append] at this
  rw [Int.toNat_natCast]
  exact this
theorem eqInt64S_loop (a b : List Int) (hl : a.length ≤ 1048576) (hab : a.length = b.length) : ∀ (d i : Nat), i + d = a.length → Ev (fun k => laws_eqInt64S.l0 k a b (i : Int)) (decide (a.drop i = b.drop i)) := by
  intro d
  induction d with
  | zero =>
    intro i hi
    refine Ev.step (f := fun _ => some true) (fun k => ?_) ?_
    · simp only [laws_eqInt64S.l0]
      rw [if_neg (by omega)]
    · rw [List.drop_eq_nil_of_le (by omega), List.drop_eq_nil_of_le (by omega), decide_eq_true rfl]
      exact Ev.now _
  | succ d ih =>
    intro i hi
    have h1 : i < a.length := by omega
    have h2 : i < b.length := by omega
    have ed : (a.drop i = b.drop i) ↔ (a[i] = b[i] ∧ a.drop (i + 1) = b.drop (i + 1)) := by
      rw [List.drop_eq_getElem_cons h1, List.drop_eq_getElem_cons h2, List.cons.injEq]
    by_cases e : a[i] = b[i]
    · rw [show decide (a.drop i = b.drop i) = decide (a.drop (i + 1) = b.drop (i + 1)) from by simp only [ed, e, true_and]]
      refine Ev.step (fun k => ?_) (ih (i + 1) (by omega))
      simp only [laws_eqInt64S.l0]
      rw [if_pos (by omega), if_pos (by omega), if_pos (by omega), rd_nat a i h1, rd_nat b i h2, if_pos e, wr (by omega) (by omega)]
      rfl
    · refine Ev.step (f := fun _ => some false) (fun k => ?_) ?_
      · simp only [laws_eqInt64S.l0]
        rw [if_pos (by omega), if_pos (by omega), if_pos (by omega), rd_nat a i h1, rd_nat b i h2, if_neg e]
      · rw [decide_eq_false (by rw [ed]; simp [e])]
        exact Ev.now _
theorem eqInt64S_ev (a b : List Int) (hl : a.length ≤ 1048576) : Ev (fun k => laws_eqInt64S.f k a b) (decide (a = b)) := by
  unfold laws_eqInt64S.f
  by_cases h : a.length = b.length
  · simp only [if_pos (show (a.length : Int) = (b.length : Int) by omega)]
    have := eqInt64S_loop a b hl h a.length 0 (by omega)
    rw [List.drop_zero, List.drop_zero] at this
    exact this
  · simp only [if_neg (show ¬ (a.length : Int) = (b.length : Int) by omega)]
    rw [decide_eq_false (by intro e; exact h (by rw [e]))]
    exact Ev.now _
def before (l : List Int) (i : Nat) : Option Int := if i = 0 then none else l[i - 1]?
end Go.Proofs.Ytjpbemomocccaaa.P

namespace Go.Proofs.Ytjpbemomocccaaa.P
open Go.RowKit Go.Proofs.YtjpbemomocccaaaW.PrintWords Go.Proofs.YtjpbemomocccaaaW.PrintLast Go.Proofs.YtjpbemomocccaaaW.PrintMore
attribute [local go_sem] max2_int min2_int max_two min_two max_three min_three max_four min_four
set_option linter.unusedVariables false
set_option linter.unusedSimpArgs false

/-- A loop that goes on while q says yes, and ends with stop where it says no. -/
theorem scan_ev {ρ : Type} {l : Nat → Int → Option ρ} {n : Nat} {q : Nat → Bool} {fin stop : ρ}
    (hgo : ∀ i : Nat, i < n → q i = true → ∀ r, Ev (fun k => l k ((i + 1 : Nat) : Int)) r → Ev (fun k => l k (i : Int)) r)
    (hstop : ∀ i : Nat, i < n → q i = false → Ev (fun k => l k (i : Int)) stop)
    (hend : Ev (fun k => l k (n : Int)) fin) : Ev (fun k => l k 0) (if (List.range n).all q then fin else stop) := by
  have key : ∀ d i : Nat, i + d = n → Ev (fun k => l k (i : Int)) (if ((List.range n).drop i).all q then fin else stop) := by
    intro d
    induction d with
    | zero =>
      intro i hi
      obtain rfl : i = n := by omega
      rw [List.drop_eq_nil_of_le (by simp)]
      exact hend
    | succ d ih =>
      intro i hi
      rw [List.drop_eq_getElem_cons (by simp; omega), List.getElem_range, List.all_cons]
      cases hq : q i with
      | false => exact hstop i (by omega) hq
      | true => rw [Bool.true_and]; exact hgo i (by omega) hq _ (ih (i + 1) (by omega))
  have := key n 0 (by omega)
  rw [List.drop_zero] at this
  exact this
theorem range_all {α : Type} (xs : List α) (p : α → Bool) (q : Nat → Bool) (h : ∀ (i : Nat) (hi : i < xs.length), q i = p xs[i]) : (List.range xs.length).all q = xs.all p := by
  rw [Bool.eq_iff_iff, List.all_eq_true, List.all_eq_true]
  constructor
  · intro hq x hx
    obtain ⟨i, hi, rfl⟩ := List.getElem_of_mem hx
    rw [← h i hi]
    exact hq i (by simpa using hi)
  · intro hp i hi
    have hi' : i < xs.length := by simpa using hi
    rw [h i hi']
    exact hp _ (List.getElem_mem hi')
theorem rdL_nat (xs : List (List Int)) (i : Nat) (h : i < xs.length) : rd_L1 xs (i : Int) = xs[i] := by
  simp [rd_L1, h]
/-- How many values a list of lists holds, the lists themselves counted. -/
def bulk (rows : List (List Int)) : Nat := rows.length + (rows.map List.length).sum
theorem sum_take_le (l : List Nat) (i : Nat) : (l.take i).sum ≤ l.sum := by
  conv => rhs; rw [← List.take_append_drop i l, List.sum_append]
  omega
theorem sum_take_succ (l : List Nat) (i : Nat) (h : i < l.length) : (l.take (i + 1)).sum = (l.take i).sum + l[i] := by
  rw [List.take_succ_eq_append_getElem h, List.sum_append]; simp
theorem sum_mem_le (l : List Nat) (x : Nat) (h : x ∈ l) : x ≤ l.sum := by
  obtain ⟨i, hi, rfl⟩ := List.getElem_of_mem h
  have := sum_take_succ l i hi
  have := sum_take_le l (i + 1)
  omega
theorem szInt64S_eq (l : List Int) (a : Int) (ha : 0 ≤ a ∧ a ≤ 1048576) (hl : l.length ≤ 9223372036854775807) : laws_szInt64S.f l a = some (if (l.length : Int) ≤ a then a - l.length else -1) := by
  unfold laws_szInt64S.f
  rw [wr (by omega) (by omega)]
  by_cases h : (l.length : Int) ≤ a
  · rw [if_neg (by omega), if_pos h]
  · rw [if_pos (by omega), if_neg h]
theorem szInt64SS_ev (rows : List (List Int)) (a : Int) (ha : 0 ≤ a ∧ a ≤ 1048576) (hl : rows.length ≤ 9223372036854775807) (hr : ∀ r ∈ rows, r.length ≤ 9223372036854775807) :
    Ev (fun k => laws_szInt64SS.f k rows a) (if (bulk rows : Int) ≤ a then a - bulk rows else -1) := by
  unfold laws_szInt64SS.f
  rw [wr (by omega) (by omega)]
  by_cases h0 : a - (rows.length : Int) < 0
  · simp only [if_pos h0]
    rw [if_neg (by unfold bulk; omega)]
    exact Ev.now _
  · simp only [if_neg h0]
    have key : ∀ d i : Nat, i + d = rows.length → ∀ b : Int, 0 ≤ b → b = a - rows.length - ((rows.map List.length).take i).sum → Ev (fun k => laws_szInt64SS.l0 k rows b (i : Int)) (if (bulk rows : Int) ≤ a then a - bulk rows else -1) := by
      intro d
      induction d with
      | zero =>
        intro i hi b hb hbe
        rw [List.take_of_length_le (by simp; omega)] at hbe
        rw [if_pos (by unfold bulk; omega), show a - ((bulk rows : Nat) : Int) = b from by unfold bulk; omega]
        refine Ev.step (f := fun _ => some b) (fun k => ?_) (Ev.now _)
        simp only [laws_szInt64SS.l0]
        rw [if_neg (by omega)]
      | succ d ih =>
        intro i hi b hb hbe
        have hlt : i < rows.length := by omega
        have hs := sum_take_succ (rows.map List.length) i (by simpa using hlt)
        rw [List.getElem_map] at hs
        have hs2 := sum_take_le (rows.map List.length) (i + 1)
        have hri := hr _ (List.getElem_mem hlt)
        by_cases hc : ((rows[i]).length : Int) ≤ b
        · refine Ev.step (fun k => ?_) (ih (i + 1) (by omega) (b - (rows[i]).length) (by omega) (by omega))
          simp only [laws_szInt64SS.l0]
          rw [if_pos (by omega), if_pos (by omega), rdL_nat rows i hlt, szInt64S_eq _ _ (by omega) hri, if_pos hc, wr (x := (i : Int) + 1) (by omega) (by omega)]
          simp only [Option.bind_some]
          rw [if_neg (by omega)]
          rfl
        · refine Ev.step (f := fun _ => some (-1)) (fun k => ?_) ?_
          · simp only [laws_szInt64SS.l0]
            rw [if_pos (by omega), if_pos (by omega), rdL_nat rows i hlt, szInt64S_eq _ _ (by omega) hri, if_neg hc]
            rfl
          · rw [if_neg (by unfold bulk; omega)]
            exact Ev.now _
    exact key rows.length 0 (by omega) _ (by omega) (by simp)
theorem bulk_len {rows : List (List Int)} {n : Nat} (h : bulk rows ≤ n) : rows.length ≤ n ∧ ∀ r ∈ rows, r.length ≤ n := by
  unfold bulk at h
  refine ⟨by omega, fun r hr => ?_⟩
  have := sum_mem_le (rows.map List.length) r.length (List.mem_map_of_mem hr)
  omega
theorem toInt64SS_ev (l : List (List Int)) (hl : l.length ≤ 1048576) (hr : ∀ r ∈ l, r.length ≤ 1048576) : Ev (fun k => laws_toInt64SS.f k l) l := by
  unfold laws_toInt64SS.f
  simp only [if_pos (show (0 : Int) ≤ (l.length : Int) by omega), if_pos (show ((l.length : Int)).toNat ≤ 11728124029610 by omega)]
  have go : ∀ (d i : Nat), i + d = l.length → Ev (fun k => laws_toInt64SS.l0 k l (l.take i ++ List.replicate d []) (i : Int)) l := by
    intro d
    induction d with
    | zero =>
      intro i hi
      refine Ev.step (f := fun _ => some l) (fun k => ?_) (Ev.now _)
      simp only [laws_toInt64SS.l0]
      rw [if_neg (by omega)]
      simp [List.take_of_length_le (show l.length ≤ i by omega)]
    | succ d ih =>
      intro i hi
      have hlt : i < l.length := by omega
      refine Ev.step (f := fun k => (laws_toInt64S.f k l[i]).bind fun t => laws_toInt64SS.l0 k l ((l.take i ++ List.replicate (d + 1) []).set i t) ((i + 1 : Nat) : Int)) (fun k => ?_) ?_
      · simp only [laws_toInt64SS.l0]
        rw [if_pos (by omega), if_pos (by omega), rdL_nat l i hlt, wr (by omega) (by omega)]
        simp only [if_pos (show (i : Int) < ((l.take i ++ List.replicate (d + 1) ([] : List Int)).length : Int) by simp; omega), Int.toNat_natCast]
        rfl
      · refine Ev.bind (toInt64S_ev _ (hr _ (List.getElem_mem hlt))) ?_
        have e0 : (l.take i).length = i := by rw [List.length_take]; omega
        have e : (l.take i ++ List.replicate (d + 1) []).set i l[i] = l.take (i + 1) ++ List.replicate d [] := by
          rw [List.set_append_right _ _ (by omega), e0, Nat.sub_self, List.replicate_succ, List.set_cons_zero, List.take_succ_eq_append_getElem hlt, List.append_assoc]
          rfl
        rw [e]
        exact ih (i + 1) (by omega)
  have := go l.length 0 (by omega)
  rw [List.take_zero, List.nil_append] at this
  rw [Int.toNat_natCast]
  exact this
theorem eqInt64SS_ev (a b : List (List Int)) (hl : a.length ≤ 1048576) (hr : ∀ r ∈ a, r.length ≤ 1048576) : Ev (fun k => laws_eqInt64SS.f k a b) (decide (a = b)) := by
  unfold laws_eqInt64SS.f
  by_cases h : a.length = b.length
  · simp only [if_pos (show (a.length : Int) = (b.length : Int) by omega)]
    have key : ∀ (d i : Nat), i + d = a.length → Ev (fun k => laws_eqInt64SS.l0 k a b (i : Int)) (decide (a.drop i = b.drop i)) := by
      intro d
      induction d with
      | zero =>
        intro i hi
        refine Ev.step (f := fun _ => some true) (fun k => ?_) ?_
        · simp only [laws_eqInt64SS.l0]
          rw [if_neg (by omega)]
        · rw [List.drop_eq_nil_of_le (by omega), List.drop_eq_nil_of_le (by omega), decide_eq_true rfl]
          exact Ev.now _
      | succ d ih =>
        intro i hi
        have h1 : i < a.length := by omega
        have h2 : i < b.length := by omega
        have ed : (a.drop i = b.drop i) ↔ (a[i] = b[i] ∧ a.drop (i + 1) = b.drop (i + 1)) := by
          rw [List.drop_eq_getElem_cons h1, List.drop_eq_getElem_cons h2, List.cons.injEq]
        refine Ev.step (f := fun k => (laws_eqInt64S.f k a[i] b[i]).bind fun t => if t = true then laws_eqInt64SS.l0 k a b ((i + 1 : Nat) : Int) else some false) (fun k => ?_) ?_
        · simp only [laws_eqInt64SS.l0]
          rw [if_pos (by omega), if_pos (by omega), if_pos (by omega), rdL_nat a i h1, rdL_nat b i h2, wr (by omega) (by omega)]
          rfl
        · refine Ev.bind (eqInt64S_ev _ _ (hr _ (List.getElem_mem h1))) ?_
          by_cases e : a[i] = b[i]
          · rw [decide_eq_true e, show decide (a.drop i = b.drop i) = decide (a.drop (i + 1) = b.drop (i + 1)) from by simp only [ed, e, true_and]]
            exact ih (i + 1) (by omega)
          · rw [decide_eq_false e, decide_eq_false (by rw [ed]; simp [e])]
            exact Ev.now _
    have := key a.length 0 (by omega)
    rw [List.drop_zero, List.drop_zero] at this
    exact this
  · simp only [if_neg (show ¬ (a.length : Int) = (b.length : Int) by omega)]
    rw [decide_eq_false (by intro e; exact h (by rw [e]))]
    exact Ev.now _
theorem eqInt64SS_same (a : List (List Int)) (hl : a.length ≤ 1048576) (hr : ∀ r ∈ a, r.length ≤ 1048576) : Ev (fun k => laws_eqInt64SS.f k a a) true := by
  have := eqInt64SS_ev a a hl hr
  rwa [decide_eq_true rfl] at this
theorem szMatrix_ev (p c : Int) (rows : List (List Int)) (a : Int) (ha : 0 ≤ a ∧ a ≤ 1048576) (hl : rows.length ≤ 9223372036854775807) (hr : ∀ r ∈ rows, r.length ≤ 9223372036854775807) :
    Ev (fun k => laws_szMatrix.f k p c rows a) (if (bulk rows : Int) ≤ a then a - bulk rows else -1) := by
  unfold laws_szMatrix.f
  refine Ev.bind (szInt64SS_ev rows a ha hl hr) ?_
  by_cases h : (bulk rows : Int) ≤ a
  · simp only [if_pos h, if_neg (show ¬ (a - (bulk rows : Int) < 0) by omega)]
    exact Ev.now _
  · simp only [if_neg h]
    exact Ev.now _
theorem toMatrix_ev (p c : Int) (l : List (List Int)) (hl : l.length ≤ 1048576) (hr : ∀ r ∈ l, r.length ≤ 1048576) : Ev (fun k => laws_toMatrix.f k p c l) (p, c, l) := by
  unfold laws_toMatrix.f
  exact Ev.bind (toInt64SS_ev l hl hr) (Ev.now _)
theorem eqMatrix_same (p c : Int) (l : List (List Int)) (hl : l.length ≤ 1048576) (hr : ∀ r ∈ l, r.length ≤ 1048576) : Ev (fun k => laws_eqMatrix.f k p c l p c l) true := by
  unfold laws_eqMatrix.f
  simp only [if_true]
  refine Ev.bind (eqInt64SS_same l hl hr) ?_
  simp only [if_true]
  exact Ev.now _

end Go.Proofs.Ytjpbemomocccaaa.P

namespace Go.Proofs.Ytjpbemomocccaaa.P
open Go.RowKit Go.Proofs.YtjpbemomocccaaaW.PrintWords Go.Proofs.YtjpbemomocccaaaW.PrintLast Go.Proofs.YtjpbemomocccaaaW.PrintMore
attribute [local go_sem] max2_int min2_int max_two min_two max_three min_three max_four min_four
set_option linter.unusedVariables false
set_option linter.unusedSimpArgs false

/-- What holds from some number of rounds on. -/
def From (P : Nat → Prop) : Prop := ∃ K, ∀ k, K ≤ k → P k
theorem From.and {P Q : Nat → Prop} (hp : From P) (hq : From Q) : From fun k => P k ∧ Q k := by
  obtain ⟨K, hK⟩ := hp
  obtain ⟨L, hL⟩ := hq
  exact ⟨max K L, fun k h => ⟨hK k (by omega), hL k (by omega)⟩⟩
theorem From.now {P : Nat → Prop} (h : From P) : ∃ k, P k := by
  obtain ⟨K, hK⟩ := h
  exact ⟨K, hK K (Nat.le_refl _)⟩
end Go.Proofs.Ytjpbemomocccaaa.P

namespace Go.Proofs.Ytjpbemomocccaaa.P
open Go.RowKit Go.Proofs.YtjpbemomocccaaaW.PrintWords Go.Proofs.YtjpbemomocccaaaW.PrintLast Go.Proofs.YtjpbemomocccaaaW.PrintMore
attribute [local go_sem] max2_int min2_int max_two min_two max_three min_three max_four min_four
set_option linter.unusedVariables false
set_option linter.unusedSimpArgs false

def grp (gs : List (List Int)) (i : Nat) : List Int := gs.getD i []
theorem grp_len {gs : List (List Int)} {m : Nat} (hr : ∀ r ∈ gs, r.length ≤ m) (i : Nat) : (grp gs i).length ≤ m := by
  unfold grp
  by_cases h : i < gs.length
  · rw [List.getD_eq_getElem?_getD, List.getElem?_eq_getElem h]; exact hr _ (List.getElem_mem h)
  · rw [List.getD_eq_getElem?_getD, List.getElem?_eq_none (by omega)]; exact Nat.zero_le _

end Go.Proofs.Ytjpbemomocccaaa.P

namespace Go.Proofs.Ytjpbemomocccaaa.P
open Go.RowKit Go.Proofs.YtjpbemomocccaaaW.PrintWords Go.Proofs.YtjpbemomocccaaaW.PrintLast Go.Proofs.YtjpbemomocccaaaW.PrintMore
attribute [local go_sem] max2_int min2_int max_two min_two max_three min_three max_four min_four
set_option linter.unusedVariables false
set_option linter.unusedSimpArgs false

/-- A row of a matrix: elements modulo p, as many as there are columns. -/
def rowB (p cols : Int) (r : List Int) : Bool := decide ((r.length : Int) = cols) && elemsB p r
def validMB (p cols : Int) (rows : List (List Int)) : Bool := primeB p && (decide (0 ≤ cols ∧ cols ≤ 12) && (decide (rows.length ≤ 20) && rows.all (rowB p cols)))
theorem spec_l03Row_ev (p cols : Int) (r : List Int) (hp : -1000 ≤ p ∧ p ≤ 1000) (hl : r.length ≤ 4611686018427387904) : Ev (fun k => spec_l03Row.f k p cols r) (rowB p cols r) := by
  unfold spec_l03Row.f
  have h := scan_ev (l := fun k i => spec_l03Row.l0 k p cols r i) (n := r.length) (q := fun i => decide (0 ≤ rd r i ∧ rd r i ≤ p - 1)) (fin := decide ((r.length : Int) = cols)) (stop := false)
    (fun i hi hq t ht => by
      refine Ev.step (fun k => ?_) ht
      simp only [spec_l03Row.l0]
      rw [if_pos (by omega), if_pos (by omega), wr (x := p - 1) (by omega) (by omega), spec_l00In_eq, wr (x := (i : Int) + 1) (by omega) (by omega)]
      simp only [Option.bind_some]
      rw [if_pos hq]
      rfl)
    (fun i hi hq => by
      refine Ev.step (f := fun _ => some false) (fun k => ?_) (Ev.now _)
      simp only [spec_l03Row.l0]
      rw [if_pos (by omega), if_pos (by omega), wr (x := p - 1) (by omega) (by omega), spec_l00In_eq]
      simp only [Option.bind_some]
      rw [if_neg (by rw [hq]; decide)])
    (by
      refine Ev.step (f := fun _ => some ((r.length : Int) == cols)) (fun k => ?_) ?_
      · simp only [spec_l03Row.l0]
        rw [if_neg (by omega)]
      · rw [show ((r.length : Int) == cols) = decide ((r.length : Int) = cols) from by by_cases e : (r.length : Int) = cols <;> simp [e]]
        exact Ev.now _)
  rw [range_all r (fun a => decide (0 ≤ a ∧ a ≤ p - 1)) _ (fun i hi => by simp only [rd_nat r i hi])] at h
  rw [show rowB p cols r = (if (r.all fun a => decide (0 ≤ a ∧ a ≤ p - 1)) then decide ((r.length : Int) = cols) else false) from by
    unfold rowB elemsB
    cases (r.all fun a => decide (0 ≤ a ∧ a ≤ p - 1)) <;> simp]
  exact h
theorem spec_l03Ok_ev (p cols : Int) (rows : List (List Int)) (hl : rows.length ≤ 4611686018427387904) (hr : ∀ r ∈ rows, r.length ≤ 4611686018427387904) : Ev (fun k => spec_l03Ok.f k p cols rows) (validMB p cols rows) := by
  unfold spec_l03Ok.f validMB
  refine Ev.bind (spec_IsPrime_ev p) ?_
  have stop : Ev (fun k => spec_l03Ok.j0 k true p cols rows) false :=
    Ev.step (f := fun _ => some false) (fun k => by simp only [spec_l03Ok.j0, if_true]) (Ev.now _)
  cases hp : primeB p with
  | false => exact stop
  | true =>
    have hpr := primeB_range hp
    simp only [if_true, spec_l00In_eq, Option.bind_some, Bool.true_and]
    cases hc : decide (0 ≤ cols ∧ cols ≤ 12) with
    | false => exact stop
    | true =>
      simp only [if_true, Bool.true_and]
      by_cases h20 : (rows.length : Int) > 20
      · rw [decide_eq_true h20, decide_eq_false (show ¬ rows.length ≤ 20 by omega), Bool.false_and]
        exact stop
      · rw [decide_eq_false h20, decide_eq_true (show rows.length ≤ 20 by omega), Bool.true_and]
        refine Ev.step (f := fun k => spec_l03Ok.l0 k 0 p cols rows) (fun k => by simp only [spec_l03Ok.j0]; rw [if_neg (by decide)]) ?_
        have h := scan_ev (l := fun k i => spec_l03Ok.l0 k i p cols rows) (n := rows.length) (q := fun i => rowB p cols (rd_L1 rows i)) (fin := true) (stop := false)
          (fun i hi hq t ht => by
            refine Ev.step (f := fun k => (spec_l03Row.f k p cols (rd_L1 rows i)).bind fun t => if t = true then spec_l03Ok.l0 k ((i + 1 : Nat) : Int) p cols rows else some false) (fun k => ?_) (Ev.bind (spec_l03Row_ev p cols _ (by omega) (by rw [rdL_nat rows i hi]; exact hr _ (List.getElem_mem hi))) ?_)
            · simp only [spec_l03Ok.l0]
              rw [if_pos (by omega), if_pos (by omega), wr (by omega) (by omega)]
              rfl
            · simp only [hq, if_true]
              exact ht)
          (fun i hi hq => by
            refine Ev.step (f := fun k => (spec_l03Row.f k p cols (rd_L1 rows i)).bind fun t => if t = true then spec_l03Ok.l0 k ((i + 1 : Nat) : Int) p cols rows else some false) (fun k => ?_) (Ev.bind (spec_l03Row_ev p cols _ (by omega) (by rw [rdL_nat rows i hi]; exact hr _ (List.getElem_mem hi))) ?_)
            · simp only [spec_l03Ok.l0]
              rw [if_pos (by omega), if_pos (by omega), wr (by omega) (by omega)]
              rfl
            · simp only [hq]
              exact Ev.now _)
          (Ev.step (f := fun _ => some true) (fun k => by simp only [spec_l03Ok.l0]; rw [if_neg (by omega)]) (Ev.now _))
        rw [range_all rows (rowB p cols) _ (fun i hi => by simp only [rdL_nat rows i hi])] at h
        rw [show rows.all (rowB p cols) = (if rows.all (rowB p cols) then true else false) from by cases rows.all (rowB p cols) <;> rfl]
        exact h
theorem idxR_ev (p : Nat → List Int → Option Bool) (q : List Int → Bool) (xs : List (List Int)) (hlen : xs.length ≤ 4611686018427387904) (hp : ∀ x ∈ xs, Ev (fun k => p k x) (q x)) (hm : ∀ x k, LeO (p k x) (p (k + 1) x)) :
    ∀ d i : Nat, i + d = xs.length → ∃ r : Int, Ev (fun k => idxR.l0 k (p k) xs (i : Int)) r ∧ decide (0 ≤ r) = (xs.drop i).any q := by
  have up : ∀ {r : Int} {i : Int}, Ev (fun k => idxR.l0 k (p k) xs i) r → Ev (fun k => idxR.l0 k (p (k + 1)) xs i) r := by
    rintro r i ⟨K, h⟩
    exact ⟨K, fun k hk => idxR.mono_p _ _ _ _ _ (fun x => hm x k) r (h k hk)⟩
  have one : ∀ x ∈ xs, Ev (fun k => p (k + 1) x) (q x) := fun x hx => by
    obtain ⟨K, h⟩ := hp x hx
    exact ⟨K, fun k hk => h (k + 1) (by omega)⟩
  intro d
  induction d with
  | zero =>
    intro i hi
    refine ⟨-1, Ev.step (f := fun _ => some (-1)) (fun k => ?_) (Ev.now _), ?_⟩
    · simp only [idxR.l0]
      rw [if_neg (by omega)]
    · rw [List.drop_eq_nil_of_le (by omega)]; rfl
  | succ d ih =>
    intro i hi
    have hlt : i < xs.length := by omega
    obtain ⟨r, hr, hd⟩ := ih (i + 1) (by omega)
    have hx := one _ (List.getElem_mem hlt)
    rw [List.drop_eq_getElem_cons hlt, List.any_cons]
    have step : ∀ {r : Int}, Ev (fun k => (p (k + 1) xs[i]).bind fun t => if t = true then some (i : Int) else idxR.l0 k (p (k + 1)) xs ((i + 1 : Nat) : Int)) r → Ev (fun k => idxR.l0 k (p k) xs (i : Int)) r := fun h => by
      refine Ev.step (g := fun k => idxR.l0 k (p k) xs (i : Int)) (fun k => ?_) h
      simp only [idxR.l0]
      rw [if_pos (by omega), if_pos (by omega), rdL_nat xs i hlt, wr (by omega) (by omega)]
      rfl
    cases hq : q xs[i] with
    | true =>
      refine ⟨i, step (Ev.bind hx ?_), ?_⟩
      · simp only [hq, if_true]; exact Ev.now _
      · rw [Bool.true_or]; exact decide_eq_true (by omega)
    | false =>
      refine ⟨r, step (Ev.bind hx ?_), ?_⟩
      · simp only [hq]; exact up hr
      · rw [Bool.false_or]; exact hd
theorem hasR_ev (p : Nat → List Int → Option Bool) (q : List Int → Bool) (xs : List (List Int)) (hlen : xs.length ≤ 4611686018427387904) (hp : ∀ x ∈ xs, Ev (fun k => p k x) (q x)) (hm : ∀ x k, LeO (p k x) (p (k + 1) x)) : Ev (fun k => hasR.f k (p k) xs) (xs.any q) := by
  obtain ⟨r, hr, hd⟩ := idxR_ev p q xs hlen hp hm xs.length 0 (by omega)
  rw [List.drop_zero] at hd
  rw [← hd]
  exact Ev.bind hr (Ev.now _)
theorem not_any_all {α : Type} (l : List α) (q : α → Bool) : (!(l.any fun a => !q a)) = l.all q := by
  induction l with
  | nil => rfl
  | cons a l ih => rw [List.any_cons, List.all_cons, ← ih, Bool.not_or, Bool.not_not]
theorem impl_ValidMatrix_ev (p cols : Int) (rows : List (List Int)) (hl : rows.length ≤ 4611686018427387904) (hr : ∀ r ∈ rows, r.length ≤ 4611686018427387904) : Ev (fun k => impl_ValidMatrix.f k p cols rows) (validMB p cols rows) := by
  unfold impl_ValidMatrix.f validMB
  refine Ev.bind (impl_IsPrime_ev p) ?_
  cases hp : primeB p with
  | false => exact Ev.now _
  | true =>
    simp only [if_true, impl_within_eq, Option.bind_some, Bool.true_and]
    cases hc : decide (0 ≤ cols ∧ cols ≤ 12) with
    | false => exact Ev.now _
    | true =>
      simp only [if_true, Bool.true_and]
      by_cases h20 : (rows.length : Int) ≤ 20
      · rw [decide_eq_true (show rows.length ≤ 20 by omega), Bool.true_and, ← not_any_all]
        simp only [if_pos h20]
        refine Ev.bind (hasR_ev (fun k => ValidMatrix_p k p cols) (fun r => !rowB p cols r) rows hl (fun r hrm => ?_) (fun x k => ValidMatrix_p.mono _ _ _ _)) (Ev.now _)
        unfold ValidMatrix_p rowB
        by_cases e : (r.length : Int) = cols
        · simp only [if_pos e, decide_eq_true e, Bool.true_and]
          have := impl_areElements_ev p r (hr r hrm)
          rw [hp, Bool.true_and] at this
          exact Ev.bind this (Ev.now _)
        · simp only [if_neg e, decide_eq_false e, Bool.false_and]
          exact Ev.now _
      · rw [decide_eq_false (show ¬ rows.length ≤ 20 by omega), Bool.false_and]
        simp only [if_neg h20]
        exact Ev.now _

end Go.Proofs.Ytjpbemomocccaaa.P

namespace Go.Proofs.Ytjpbemomocccaaa.P
open Go.RowKit Go.Proofs.YtjpbemomocccaaaW.PrintWords Go.Proofs.YtjpbemomocccaaaW.PrintLast Go.Proofs.YtjpbemomocccaaaW.PrintMore
attribute [local go_sem] max2_int min2_int max_two min_two max_three min_three max_four min_four
set_option linter.unusedVariables false
set_option linter.unusedSimpArgs false

/-! ### spec_l03Times: function 90 -/
end Go.Proofs.Ytjpbemomocccaaa.P

namespace Go.Proofs.Ytjpbemomocccaaa.P
open Go.RowKit Go.Proofs.YtjpbemomocccaaaW.PrintWords Go.Proofs.YtjpbemomocccaaaW.PrintLast Go.Proofs.YtjpbemomocccaaaW.PrintMore
attribute [local go_sem] max2_int min2_int max_two min_two max_three min_three max_four min_four
set_option linter.unusedVariables false
set_option linter.unusedSimpArgs false

/-! ### spec_l03Echelon: function 48 (by hand) -/
end Go.Proofs.Ytjpbemomocccaaa.P

namespace Go.Proofs.Ytjpbemomocccaaa.P
open Go.RowKit Go.Proofs.YtjpbemomocccaaaW.PrintWords Go.Proofs.YtjpbemomocccaaaW.PrintLast Go.Proofs.YtjpbemomocccaaaW.PrintMore
attribute [local go_sem] max2_int min2_int max_two min_two max_three min_three max_four min_four
set_option linter.unusedVariables false
set_option linter.unusedSimpArgs false

/-! ### impl_Matrix_echelon: function 51 (by hand) -/
end Go.Proofs.Ytjpbemomocccaaa.P

namespace Go.Proofs.Ytjpbemomocccaaa.P
open Go.RowKit Go.Proofs.YtjpbemomocccaaaW.PrintWords Go.Proofs.YtjpbemomocccaaaW.PrintLast Go.Proofs.YtjpbemomocccaaaW.PrintMore
attribute [local go_sem] max2_int min2_int max_two min_two max_three min_three max_four min_four
set_option linter.unusedVariables false
set_option linter.unusedSimpArgs false

theorem rd_cast (xs : List Int) (i : Nat) : rd xs (i : Int) = xs.getD i 0 := by simp [rd]
theorem rdL_cast (gs : List (List Int)) (i : Nat) : rd_L1 gs (i : Int) = grp gs i := by simp [rd_L1, grp]
theorem getD_set {α : Type} (l : List α) (i j : Nat) (v d : α) (hi : i < l.length) : (l.set i v).getD j d = if j = i then v else l.getD j d := by
  rw [List.getD_eq_getElem?_getD, List.getD_eq_getElem?_getD, List.getElem?_set]
  by_cases h : j = i
  · subst h; rw [if_pos rfl, if_pos rfl, if_pos hi]; rfl
  · rw [if_neg (Ne.symm h), if_neg h]
theorem getD_map {α : Type} (n : Nat) (f : Nat → α) (j : Nat) (d : α) (hj : j < n) : ((List.range n).map f).getD j d = f j := by
  rw [List.getD_eq_getElem?_getD, List.getElem?_map, List.getElem?_range hj]; rfl
theorem list_of_getD {α : Type} (l : List α) (d : α) : (List.range l.length).map (fun j => l.getD j d) = l := by
  refine List.ext_getElem (by simp) fun i h1 h2 => ?_
  have : i < l.length := h2
  simp [List.getD_eq_getElem?_getD, this]
theorem list_eq_getD {α : Type} (d : α) {a b : List α} (hl : a.length = b.length) (h : ∀ i, i < a.length → a.getD i d = b.getD i d) : a = b := by
  refine List.ext_getElem hl fun i h1 h2 => ?_
  have := h i h1
  rwa [List.getD_eq_getElem?_getD, List.getD_eq_getElem?_getD, List.getElem?_eq_getElem h1, List.getElem?_eq_getElem h2] at this
/-- A loop that sets one place of a list after another. -/
theorem setloop_ev {α : Type} (d : α) {l : Nat → Int → List α → Option (List α)} (ys : List α) (f : Nat → α → α)
    (hgo : ∀ (i : Nat) (xs : List α), i < ys.length → xs.length = ys.length → (∀ j, j < ys.length → xs.getD j d = if j < i then f j (ys.getD j d) else ys.getD j d) → ∀ r, Ev (fun k => l k ((i + 1 : Nat) : Int) (xs.set i (f i (ys.getD i d)))) r → Ev (fun k => l k (i : Int) xs) r)
    (hend : ∀ xs, xs.length = ys.length → Ev (fun k => l k (ys.length : Int) xs) xs) : Ev (fun k => l k 0 ys) ((List.range ys.length).map fun j => f j (ys.getD j d)) := by
  have key : ∀ m i : Nat, i + m = ys.length → ∀ xs : List α, xs.length = ys.length → (∀ j, j < ys.length → xs.getD j d = if j < i then f j (ys.getD j d) else ys.getD j d) → Ev (fun k => l k (i : Int) xs) ((List.range ys.length).map fun j => f j (ys.getD j d)) := by
    intro m
    induction m with
    | zero =>
      intro i hi xs hx hj
      obtain rfl : i = ys.length := by omega
      have e : xs = (List.range ys.length).map fun j => f j (ys.getD j d) := by
        refine list_eq_getD d (by simp [hx]) fun j hjx => ?_
        rw [getD_map _ _ _ _ (by omega), hj j (by omega), if_pos (by omega)]
      have := hend xs hx
      rw [← e]
      exact this
    | succ m ih =>
      intro i hi xs hx hj
      refine hgo i xs (by omega) hx hj _ (ih (i + 1) (by omega) _ (by rw [List.length_set]; exact hx) fun j hjl => ?_)
      rw [getD_set _ _ _ _ _ (by omega)]
      by_cases h1 : j = i
      · subst h1; rw [if_pos rfl, if_pos (by omega)]
      · rw [if_neg h1, hj j hjl]
        by_cases h2 : j < i
        · rw [if_pos h2, if_pos (by omega)]
        · rw [if_neg h2, if_neg (by omega)]
  exact key ys.length 0 (by omega) ys rfl fun j _ => by rw [if_neg (by omega)]
/-- A list of C elements modulo p. -/
def RowP (p : Int) (C : Nat) (r : List Int) : Prop := r.length = C ∧ ∀ j, 0 ≤ r.getD j 0 ∧ r.getD j 0 ≤ p - 1
def MatP (p : Int) (C : Nat) (rows : List (List Int)) : Prop := ∀ i, i < rows.length → RowP p C (grp rows i)
theorem mod_range {p : Int} (hp : 2 ≤ p) (x : Int) : 0 ≤ x % p ∧ x % p ≤ p - 1 := ⟨Int.emod_nonneg _ (by omega), by have := Int.emod_lt_of_pos x (b := p) (by omega); omega⟩
theorem RowP_map {p : Int} (hp : 2 ≤ p) (C : Nat) (f : Nat → Int) (hf : ∀ j, j < C → 0 ≤ f j ∧ f j ≤ p - 1) : RowP p C ((List.range C).map f) := by
  refine ⟨by simp, fun j => ?_⟩
  by_cases h : j < C
  · rw [getD_map _ _ _ _ h]; exact hf j h
  · rw [List.getD_eq_getElem?_getD, List.getElem?_eq_none (by simp; omega)]
    show 0 ≤ (0 : Int) ∧ (0 : Int) ≤ p - 1
    omega
def timesB (p by_ : Int) (r : List Int) : List Int := (List.range r.length).map fun j => r.getD j 0 * by_ % p
def addB (p : Int) (u row : List Int) (t : Int) : List Int := (List.range u.length).map fun j => (u.getD j 0 + row.getD j 0 * t) % p
theorem timesB_row {p by_ : Int} {C : Nat} {r : List Int} (hp : 2 ≤ p) (h : RowP p C r) : RowP p C (timesB p by_ r) := by
  unfold timesB; rw [h.1]; exact RowP_map hp C _ fun j _ => mod_range hp _
theorem addB_row {p t : Int} {C : Nat} {r s : List Int} (hp : 2 ≤ p) (h : RowP p C r) : RowP p C (addB p r s t) := by
  unfold addB; rw [h.1]; exact RowP_map hp C _ fun j _ => mod_range hp _
theorem mul_le31 {p a b : Int} (hp : 2 ≤ p ∧ p ≤ 31) (ha : 0 ≤ a ∧ a ≤ p - 1) (hb : 0 ≤ b ∧ b ≤ p) : 0 ≤ a * b ∧ a * b ≤ 1000 := by
  refine ⟨Int.mul_nonneg ha.1 hb.1, ?_⟩
  have h1 : a * b ≤ 30 * b := Int.mul_le_mul_of_nonneg_right (by omega) hb.1
  omega
theorem impl_scaled_ev {p by_ : Int} {C : Nat} {r : List Int} (hp : 2 ≤ p ∧ p ≤ 31) (hC : C ≤ 1000) (h : RowP p C r) (hb : 0 ≤ by_ ∧ by_ ≤ p) : Ev (fun k => impl_scaled.f k p r by_) (timesB p by_ r) := by
  unfold impl_scaled.f timesB
  refine setloop_ev (0 : Int) (l := fun k i xs => impl_scaled.l0 k p xs by_ (r.length : Int) i) r (fun _ x => x * by_ % p) (fun i xs hi hx hj t ht => ?_) (fun xs hx => ?_)
  · have hl := h.1
    refine Ev.step (fun k => ?_) ht
    have hm := mul_le31 hp (h.2 i) hb
    have e := hj i hi
    rw [if_neg (by omega)] at e
    simp only [impl_scaled.l0]
    rw [if_pos (by omega), if_pos (by omega), if_pos (by omega), if_neg (by omega), rd_cast, e, wr (by omega) (by omega), Int.tmod_eq_emod_of_nonneg hm.1, wr (by omega) (by omega)]
    rfl
  · refine Ev.step (f := fun _ => some xs) (fun k => ?_) (Ev.now _)
    simp only [impl_scaled.l0]
    rw [if_neg (by omega)]
theorem impl_takeOff_ev {p t : Int} {C : Nat} {r s : List Int} (hp : 2 ≤ p ∧ p ≤ 31) (hC : C ≤ 1000) (h : RowP p C r) (hs : RowP p C s) (ht : 0 ≤ t ∧ t ≤ p) : Ev (fun k => impl_takeOff.f k p r s t) (addB p r s (p - t)) := by
  unfold impl_takeOff.f addB
  have hl := h.1
  have hsl := hs.1
  refine setloop_ev (0 : Int) (l := fun k i xs => impl_takeOff.l0 k p xs t s (s.length : Int) i) r (fun j x => (x + s.getD j 0 * (p - t)) % p) (fun i xs hi hx hj q hq => ?_) (fun xs hx => ?_)
  · refine Ev.step (fun k => ?_) hq
    have hm := mul_le31 hp (hs.2 i) (b := p - t) (by omega)
    have hr := h.2 i
    have e := hj i hi
    rw [if_neg (by omega)] at e
    simp only [impl_takeOff.l0]
    rw [if_pos (by omega), if_pos (by omega), if_pos (by omega), if_pos (by omega), if_neg (by omega), rd_cast, rd_cast, e, wr (x := p - t) (by omega) (by omega), Int.mul_comm (p - t), wr (x := s.getD i 0 * (p - t)) (by omega) (by omega), wr (x := r.getD i 0 + _) (by omega) (by omega), Int.tmod_eq_emod_of_nonneg (by omega), wr (by omega) (by omega)]
    rfl
  · refine Ev.step (f := fun _ => some xs) (fun k => ?_) (Ev.now _)
    simp only [impl_takeOff.l0]
    rw [if_neg (by omega)]
theorem spec_l03Add_ev {p t : Int} {C : Nat} {r s : List Int} (hp : 2 ≤ p ∧ p ≤ 31) (hC : C ≤ 1000) (h : RowP p C r) (hs : RowP p C s) (ht : 0 ≤ t ∧ t ≤ p) : Ev (fun k => spec_l03Add.f k p r s t) (addB p r s t) := by
  unfold spec_l03Add.f addB
  have hl := h.1
  have hsl := hs.1
  refine setloop_ev (0 : Int) (l := fun k i xs => spec_l03Add.l0 k p xs s t i) r (fun j x => (x + s.getD j 0 * t) % p) (fun i xs hi hx hj q hq => ?_) (fun xs hx => ?_)
  · refine Ev.step (fun k => ?_) hq
    have hm := mul_le31 hp (hs.2 i) (b := t) (by omega)
    have hr := h.2 i
    have e := hj i hi
    rw [if_neg (by omega)] at e
    simp only [spec_l03Add.l0]
    rw [if_pos (by omega), if_pos (by omega), if_pos (by omega), if_neg (by omega), rd_cast, rd_cast, e, wr (x := s.getD i 0 * t) (by omega) (by omega), wr (x := r.getD i 0 + _) (by omega) (by omega), Int.tmod_eq_emod_of_nonneg (by omega), wr (by omega) (by omega)]
    rfl
  · refine Ev.step (f := fun _ => some xs) (fun k => ?_) (Ev.now _)
    simp only [spec_l03Add.l0]
    rw [if_neg (by omega)]
/-- The first row from a on whose element c is not 0; the number of rows where there is none. -/
def findN (rows : List (List Int)) (c a : Nat) : Nat := a + (rows.drop a).findIdx (fun r => r.getD c 0 != 0)
theorem findN_here {rows : List (List Int)} {c a : Nat} (ha : a < rows.length) (h : (grp rows a).getD c 0 ≠ 0) : findN rows c a = a := by
  unfold findN
  rw [List.drop_eq_getElem_cons ha, List.findIdx_cons]
  have : (rows[a].getD c 0 != 0) = true := by rw [show rows[a] = grp rows a from by simp [grp, ha]]; exact bne_iff_ne.mpr h
  rw [this]; rfl
theorem findN_next {rows : List (List Int)} {c a : Nat} (ha : a < rows.length) (h : (grp rows a).getD c 0 = 0) : findN rows c a = findN rows c (a + 1) := by
  unfold findN
  rw [List.drop_eq_getElem_cons ha, List.findIdx_cons]
  have : (rows[a].getD c 0 != 0) = false := by rw [show rows[a] = grp rows a from by simp [grp, ha], h]; rfl
  rw [this]
  simp only [cond_false]
  omega
theorem findN_end {rows : List (List Int)} {c a : Nat} (ha : rows.length ≤ a) : findN rows c a = a := by
  unfold findN
  rw [List.drop_eq_nil_of_le ha]; rfl
theorem findN_le {rows : List (List Int)} {c : Nat} : ∀ (d a : Nat), a + d = rows.length → a ≤ findN rows c a ∧ findN rows c a ≤ rows.length ∧ (findN rows c a < rows.length → (grp rows (findN rows c a)).getD c 0 ≠ 0) ∧ ∀ j, a ≤ j → j < findN rows c a → (grp rows j).getD c 0 = 0 := by
  intro d
  induction d with
  | zero =>
    intro a ha
    rw [findN_end (by omega)]
    exact ⟨Nat.le_refl _, by omega, fun h => by omega, fun j h1 h2 => by omega⟩
  | succ d ih =>
    intro a ha
    by_cases h : (grp rows a).getD c 0 = 0
    · rw [findN_next (by omega) h]
      obtain ⟨h1, h2, h3, h4⟩ := ih (a + 1) (by omega)
      refine ⟨by omega, h2, h3, fun j hj hj2 => ?_⟩
      by_cases e : j = a
      · rw [e]; exact h
      · exact h4 j (by omega) hj2
    · rw [findN_here (by omega) h]
      exact ⟨Nat.le_refl _, by omega, fun _ => h, fun j h1 h2 => by omega⟩
theorem findB_ev {p : Int} {C c : Nat} {rows : List (List Int)} (hM : MatP p C rows) (hc : c < C) (hl : rows.length ≤ 1000) : ∀ (d a : Nat), a + d = rows.length → Ev (fun k => findB k rows (c : Int) (a : Int)) ((findN rows c a : Nat) : Int) := by
  intro d
  induction d with
  | zero =>
    intro a ha
    rw [findN_end (by omega)]
    refine Ev.step (f := fun _ => some (a : Int)) (fun k => ?_) (Ev.now _)
    simp only [findB]
    rw [if_neg (by omega)]
  | succ d ih =>
    intro a ha
    have hr := (hM a (by omega)).1
    by_cases h : (grp rows a).getD c 0 = 0
    · rw [findN_next (by omega) h]
      refine Ev.step (fun k => ?_) (ih (a + 1) (by omega))
      simp only [findB]
      rw [if_pos (by omega), if_pos (by omega), if_pos (by omega), rdL_cast, if_pos (by omega), rd_cast, if_pos h, wr (by omega) (by omega)]
      rfl
    · rw [findN_here (by omega) h]
      refine Ev.step (f := fun _ => some (a : Int)) (fun k => ?_) (Ev.now _)
      simp only [findB]
      rw [if_pos (by omega), if_pos (by omega), if_pos (by omega), rdL_cast, if_pos (by omega), rd_cast, if_neg h]
theorem swapB_grp {rows : List (List Int)} {n a : Nat} (hn : n < rows.length) (ha : a < rows.length) (j : Nat) : grp (swapB rows n a) j = if j = a then grp rows n else if j = n then grp rows a else grp rows j := by
  unfold swapB grp
  rw [getD_set _ _ _ _ _ (by rw [List.length_set]; exact ha), getD_set _ _ _ _ _ hn, rdL_cast, rdL_cast]
  rfl
theorem swapB_length (rows : List (List Int)) (n a : Nat) : (swapB rows n a).length = rows.length := by simp [swapB]
end Go.Proofs.Ytjpbemomocccaaa.P

namespace Go.Proofs.Ytjpbemomocccaaa.P
open Go.RowKit Go.Proofs.YtjpbemomocccaaaW.PrintWords Go.Proofs.YtjpbemomocccaaaW.PrintLast Go.Proofs.YtjpbemomocccaaaW.PrintMore
attribute [local go_sem] max2_int min2_int max_two min_two max_three min_three max_four min_four
set_option linter.unusedVariables false
set_option linter.unusedSimpArgs false

/-! ### spec_EchelonOf: function 13 -/
end Go.Proofs.Ytjpbemomocccaaa.P

namespace Go.Proofs.Ytjpbemomocccaaa.P
open Go.RowKit Go.Proofs.YtjpbemomocccaaaW.PrintWords Go.Proofs.YtjpbemomocccaaaW.PrintLast Go.Proofs.YtjpbemomocccaaaW.PrintMore
attribute [local go_sem] max2_int min2_int max_two min_two max_three min_three max_four min_four
set_option linter.unusedVariables false
set_option linter.unusedSimpArgs false

/-! ### impl_EchelonOf: function 15 -/
end Go.Proofs.Ytjpbemomocccaaa.P

namespace Go.Proofs.Ytjpbemomocccaaa.P
open Go.RowKit Go.Proofs.YtjpbemomocccaaaW.PrintWords Go.Proofs.YtjpbemomocccaaaW.PrintLast Go.Proofs.YtjpbemomocccaaaW.PrintMore
attribute [local go_sem] max2_int min2_int max_two min_two max_three min_three max_four min_four
set_option linter.unusedVariables false
set_option linter.unusedSimpArgs false

/-! ### laws_markInt64S: function 31 -/
end Go.Proofs.Ytjpbemomocccaaa.P

namespace Go.Proofs.Ytjpbemomocccaaa.P
open Go.RowKit Go.Proofs.YtjpbemomocccaaaW.PrintWords Go.Proofs.YtjpbemomocccaaaW.PrintLast Go.Proofs.YtjpbemomocccaaaW.PrintMore
attribute [local go_sem] max2_int min2_int max_two min_two max_three min_three max_four min_four
set_option linter.unusedVariables false
set_option linter.unusedSimpArgs false

/-! ### laws_markInt64SS: function 53 (by hand) -/
end Go.Proofs.Ytjpbemomocccaaa.P

namespace Go.Proofs.Ytjpbemomocccaaa.P
open Go.RowKit Go.Proofs.YtjpbemomocccaaaW.PrintWords Go.Proofs.YtjpbemomocccaaaW.PrintLast Go.Proofs.YtjpbemomocccaaaW.PrintMore
attribute [local go_sem] max2_int min2_int max_two min_two max_three min_three max_four min_four
set_option linter.unusedVariables false
set_option linter.unusedSimpArgs false

/-! ### laws_markMatrix: function 17 (by hand) -/
end Go.Proofs.Ytjpbemomocccaaa.P

namespace Go.Proofs.Ytjpbemomocccaaa.P
open Go.RowKit Go.Proofs.YtjpbemomocccaaaW.PrintWords Go.Proofs.YtjpbemomocccaaaW.PrintLast Go.Proofs.YtjpbemomocccaaaW.PrintMore
attribute [local go_sem] max2_int min2_int max_two min_two max_three min_three max_four min_four
set_option linter.unusedVariables false
set_option linter.unusedSimpArgs false

/-! ### laws_heldInt64S: function 32 -/
end Go.Proofs.Ytjpbemomocccaaa.P

namespace Go.Proofs.Ytjpbemomocccaaa.P
open Go.RowKit Go.Proofs.YtjpbemomocccaaaW.PrintWords Go.Proofs.YtjpbemomocccaaaW.PrintLast Go.Proofs.YtjpbemomocccaaaW.PrintMore
attribute [local go_sem] max2_int min2_int max_two min_two max_three min_three max_four min_four
set_option linter.unusedVariables false
set_option linter.unusedSimpArgs false

/-! ### laws_heldInt64SS: function 54 -/
end Go.Proofs.Ytjpbemomocccaaa.P

namespace Go.Proofs.Ytjpbemomocccaaa.P
open Go.RowKit Go.Proofs.YtjpbemomocccaaaW.PrintWords Go.Proofs.YtjpbemomocccaaaW.PrintLast Go.Proofs.YtjpbemomocccaaaW.PrintMore
attribute [local go_sem] max2_int min2_int max_two min_two max_three min_three max_four min_four
set_option linter.unusedVariables false
set_option linter.unusedSimpArgs false

/-! ### laws_heldMatrix: function 18 -/
end Go.Proofs.Ytjpbemomocccaaa.P

namespace Go.Proofs.Ytjpbemomocccaaa.P
open Go.RowKit Go.Proofs.YtjpbemomocccaaaW.PrintWords Go.Proofs.YtjpbemomocccaaaW.PrintLast Go.Proofs.YtjpbemomocccaaaW.PrintMore
attribute [local go_sem] max2_int min2_int max_two min_two max_three min_three max_four min_four
set_option linter.unusedVariables false
set_option linter.unusedSimpArgs false

/-! ### laws_markScheme: function 44 (by hand) -/
end Go.Proofs.Ytjpbemomocccaaa.P

namespace Go.Proofs.Ytjpbemomocccaaa.P
open Go.RowKit Go.Proofs.YtjpbemomocccaaaW.PrintWords Go.Proofs.YtjpbemomocccaaaW.PrintLast Go.Proofs.YtjpbemomocccaaaW.PrintMore
attribute [local go_sem] max2_int min2_int max_two min_two max_three min_three max_four min_four
set_option linter.unusedVariables false
set_option linter.unusedSimpArgs false

/-! ### laws_heldScheme: function 45 -/
end Go.Proofs.Ytjpbemomocccaaa.P

namespace Go.Proofs.Ytjpbemomocccaaa.P
open Go.RowKit Go.Proofs.YtjpbemomocccaaaW.PrintWords Go.Proofs.YtjpbemomocccaaaW.PrintLast Go.Proofs.YtjpbemomocccaaaW.PrintMore
attribute [local go_sem] max2_int min2_int max_two min_two max_three min_three max_four min_four
set_option linter.unusedVariables false
set_option linter.unusedSimpArgs false

end Go.Proofs.Ytjpbemomocccaaa.P

namespace Go.Proofs.Ytjpbemomocccaaa.P
open Go.RowKit Go.Proofs.YtjpbemomocccaaaW.PrintWords Go.Proofs.YtjpbemomocccaaaW.PrintLast Go.Proofs.YtjpbemomocccaaaW.PrintMore
attribute [local go_sem] max2_int min2_int max_two min_two max_three min_three max_four min_four
set_option linter.unusedVariables false
set_option linter.unusedSimpArgs false

/-- A loop that puts one value after another behind a list. -/
theorem build_ev {α ρ : Type} {l : Nat → Int → List α → Option ρ} (n : Nat) (f : Nat → α) {fin : ρ}
    (hgo : ∀ (i : Nat) (acc : List α), i < n → acc.length = i → ∀ r, Ev (fun k => l k ((i + 1 : Nat) : Int) (acc ++ [f i])) r → Ev (fun k => l k (i : Int) acc) r)
    (hend : Ev (fun k => l k (n : Int) ((List.range n).map f)) fin) : Ev (fun k => l k 0 []) fin := by
  have key : ∀ d i : Nat, i + d = n → Ev (fun k => l k (i : Int) ((List.range i).map f)) fin := by
    intro d
    induction d with
    | zero =>
      intro i hi
      obtain rfl : i = n := by omega
      exact hend
    | succ d ih =>
      intro i hi
      refine hgo i _ (by omega) (by simp) _ ?_
      have := ih (i + 1) (by omega)
      rwa [List.range_succ, List.map_append] at this
  exact key n 0 (by omega)
theorem elemsB_get {p : Int} {l : List Int} (h : elemsB p l = true) (i : Nat) (hi : i < l.length) : 0 ≤ l[i] ∧ l[i] ≤ p - 1 := by
  unfold elemsB at h
  exact of_decide_eq_true (List.all_eq_true.mp h _ (List.getElem_mem hi))
end Go.Proofs.Ytjpbemomocccaaa.P

namespace Go.Proofs.Ytjpbemomocccaaa.P
open Go.RowKit Go.Proofs.YtjpbemomocccaaaW.PrintWords Go.Proofs.YtjpbemomocccaaaW.PrintLast Go.Proofs.YtjpbemomocccaaaW.PrintMore
attribute [local go_sem] max2_int min2_int max_two min_two max_three min_three max_four min_four
set_option linter.unusedVariables false
set_option linter.unusedSimpArgs false

/-! ### spec_l03Turned: function 100 -/
end Go.Proofs.Ytjpbemomocccaaa.P

namespace Go.Proofs.Ytjpbemomocccaaa.P
open Go.RowKit Go.Proofs.YtjpbemomocccaaaW.PrintWords Go.Proofs.YtjpbemomocccaaaW.PrintLast Go.Proofs.YtjpbemomocccaaaW.PrintMore
attribute [local go_sem] max2_int min2_int max_two min_two max_three min_three max_four min_four
set_option linter.unusedVariables false
set_option linter.unusedSimpArgs false

/-! ### spec_l03Told: function 55 -/
end Go.Proofs.Ytjpbemomocccaaa.P

namespace Go.Proofs.Ytjpbemomocccaaa.P
open Go.RowKit Go.Proofs.YtjpbemomocccaaaW.PrintWords Go.Proofs.YtjpbemomocccaaaW.PrintLast Go.Proofs.YtjpbemomocccaaaW.PrintMore
attribute [local go_sem] max2_int min2_int max_two min_two max_three min_three max_four min_four
set_option linter.unusedVariables false
set_option linter.unusedSimpArgs false

/-! ### impl_matrixOrLimit: function 57 -/
end Go.Proofs.Ytjpbemomocccaaa.P

namespace Go.Proofs.Ytjpbemomocccaaa.P
open Go.RowKit Go.Proofs.YtjpbemomocccaaaW.PrintWords Go.Proofs.YtjpbemomocccaaaW.PrintLast Go.Proofs.YtjpbemomocccaaaW.PrintMore
attribute [local go_sem] max2_int min2_int max_two min_two max_three min_three max_four min_four
set_option linter.unusedVariables false
set_option linter.unusedSimpArgs false

theorem validMB_parts {p cols : Int} {rows : List (List Int)} (h : validMB p cols rows = true) : (2 ≤ p ∧ p ≤ 31) ∧ (0 ≤ cols ∧ cols ≤ 12) ∧ rows.length ≤ 20 ∧ (∀ i, i < rows.length → ((grp rows i).length : Int) = cols ∧ elemsB p (grp rows i) = true) := by
  unfold validMB at h
  simp only [Bool.and_eq_true, decide_eq_true_eq] at h
  refine ⟨primeB_range h.1, h.2.1, h.2.2.1, fun i hi => ?_⟩
  have := List.all_eq_true.mp h.2.2.2 rows[i] (List.getElem_mem hi)
  unfold rowB at this
  simp only [Bool.and_eq_true, decide_eq_true_eq] at this
  rw [show grp rows i = rows[i] from by simp [grp, hi]]
  exact this
end Go.Proofs.Ytjpbemomocccaaa.P

namespace Go.Proofs.Ytjpbemomocccaaa.P
open Go.RowKit Go.Proofs.YtjpbemomocccaaaW.PrintWords Go.Proofs.YtjpbemomocccaaaW.PrintLast Go.Proofs.YtjpbemomocccaaaW.PrintMore
attribute [local go_sem] max2_int min2_int max_two min_two max_three min_three max_four min_four
set_option linter.unusedVariables false
set_option linter.unusedSimpArgs false

theorem own_eq (l : List Int) (hl : l.length ≤ 1048576) : spec_l00Own.f l = some l := by
  unfold spec_l00Own.f
  simp only [Option.bind_some, List.length_nil, List.nil_append]
  rw [if_pos (by omega)]
theorem clone_eq (l : List Int) (hl : l.length ≤ 1048576) : slices_Clone_int64_int64.f l = some l := by
  unfold slices_Clone_int64_int64.f
  rw [if_pos (by omega)]

end Go.Proofs.Ytjpbemomocccaaa.P

namespace Go.Proofs.Ytjpbemomocccaaa.P
open Go.RowKit Go.Proofs.YtjpbemomocccaaaW.PrintWords Go.Proofs.YtjpbemomocccaaaW.PrintLast Go.Proofs.YtjpbemomocccaaaW.PrintMore
attribute [local go_sem] max2_int min2_int max_two min_two max_three min_three max_four min_four
set_option linter.unusedVariables false
set_option linter.unusedSimpArgs false

structure EchP (p : Int) (C : Nat) (s : List (List Int) × List Int) : Prop where
  mat : MatP p C s.1
  le : s.2.length ≤ s.1.length
  rl : s.1.length ≤ 1000
theorem set_mat {p : Int} {C n : Nat} {rows : List (List Int)} {r : List Int} (h : MatP p C rows) (hn : n < rows.length) (hr : RowP p C r) : MatP p C (rows.set n r) := by
  intro i hi
  rw [List.length_set] at hi
  show RowP p C ((rows.set n r).getD i [])
  rw [getD_set _ _ _ _ _ hn]
  split
  · exact hr
  · exact h i hi
theorem swap_mat {p : Int} {C n a : Nat} {rows : List (List Int)} (h : MatP p C rows) (hn : n < rows.length) (ha : a < rows.length) : MatP p C (swapB rows n a) := by
  intro i hi
  rw [swapB_length] at hi
  rw [swapB_grp hn ha]
  split
  · exact h n hn
  · split
    · exact h a ha
    · exact h i hi
theorem invB_range {p a : Int} (hp : 2 ≤ p) : 0 ≤ invB p a ∧ invB p a ≤ p - 1 := pw_range hp _
theorem copies_same (rows : List (List Int)) : (List.range rows.length).map (fun i => grp rows i) = rows := list_of_getD rows []
theorem impl_copyRows_ev (rows : List (List Int)) (hl : rows.length ≤ 1048576) (hr : ∀ r ∈ rows, r.length ≤ 1048576) : Ev (fun k => impl_copyRows.f k rows) rows := by
  unfold impl_copyRows.f
  refine build_ev (l := fun k i acc => impl_copyRows.l0 k acc rows (rows.length : Int) i) rows.length (fun i => grp rows i) (fun i acc hi ha r hr2 => ?_) ?_
  · refine Ev.step (fun k => ?_) hr2
    simp only [impl_copyRows.l0]
    rw [if_pos (by omega), if_pos (by omega), if_pos (by omega), rdL_cast, clone_eq _ (grp_len hr _), wr (by omega) (by omega)]
    simp only [Option.bind_some, if_pos (show acc.length < 5864062014805 by omega)]
    rfl
  · refine Ev.step (f := fun _ => some rows) (fun k => ?_) (Ev.now _)
    simp only [impl_copyRows.l0]
    rw [if_neg (by omega), copies_same]
theorem spec_l03Copy_ev (p c : Int) (rows : List (List Int)) (hl : rows.length ≤ 1048576) (hr : ∀ r ∈ rows, r.length ≤ 1048576) : Ev (fun k => spec_l03Copy.f k p c rows) (p, c, rows) := by
  unfold spec_l03Copy.f
  refine build_ev (l := fun k i acc => spec_l03Copy.l0 k i p c rows p c acc) rows.length (fun i => grp rows i) (fun i acc hi ha r hr2 => ?_) ?_
  · refine Ev.step (fun k => ?_) hr2
    simp only [spec_l03Copy.l0]
    rw [if_pos (by omega), if_pos (by omega), rdL_cast, own_eq _ (grp_len hr _), wr (by omega) (by omega)]
    simp only [Option.bind_some, if_pos (show acc.length < 5864062014805 by omega)]
    rfl
  · refine Ev.step (f := fun _ => some (p, c, rows)) (fun k => ?_) (Ev.now _)
    simp only [spec_l03Copy.l0]
    rw [if_neg (by omega), copies_same]
theorem mat_small {p : Int} {C : Nat} {rows : List (List Int)} (hM : MatP p C rows) : ∀ r ∈ rows, r.length = C := by
  intro r hr
  obtain ⟨i, hi, rfl⟩ := List.getElem_of_mem hr
  have := (hM i hi).1
  rwa [show grp rows i = rows[i] from by simp [grp, hi]] at this
theorem MatP_of_valid {p cols : Int} {rows : List (List Int)} (h : validMB p cols rows = true) : (2 ≤ p ∧ p ≤ 31) ∧ (cols.toNat : Int) = cols ∧ cols.toNat ≤ 12 ∧ rows.length ≤ 20 ∧ MatP p cols.toNat rows := by
  obtain ⟨h1, h2, h3, h4⟩ := validMB_parts h
  refine ⟨h1, by omega, by omega, h3, fun i hi => ⟨by have := (h4 i hi).1; omega, fun j => ?_⟩⟩
  by_cases hj : j < (grp rows i).length
  · have := elemsB_get (h4 i hi).2 j hj
    rw [List.getD_eq_getElem?_getD, List.getElem?_eq_getElem hj]
    exact this
  · rw [List.getD_eq_getElem?_getD, List.getElem?_eq_none (by omega)]
    show 0 ≤ (0 : Int) ∧ (0 : Int) ≤ p - 1
    omega
end Go.Proofs.Ytjpbemomocccaaa.P

namespace Go.Proofs.Ytjpbemomocccaaa.P
open Go.RowKit Go.Proofs.YtjpbemomocccaaaW.PrintWords Go.Proofs.YtjpbemomocccaaaW.PrintLast Go.Proofs.YtjpbemomocccaaaW.PrintMore
attribute [local go_sem] max2_int min2_int max_two min_two max_three min_three max_four min_four
set_option linter.unusedVariables false
set_option linter.unusedSimpArgs false

/-- Equal modulo p. -/
def Eqm (p a b : Int) : Prop := ∃ k, a = b + p * k
theorem Eqm.rfl_ (p a : Int) : Eqm p a a := ⟨0, by omega⟩
theorem Eqm.of_eq {p a b : Int} (h : a = b) : Eqm p a b := ⟨0, by omega⟩
theorem Eqm.symm {p a b : Int} (h : Eqm p a b) : Eqm p b a := by obtain ⟨k, h⟩ := h; exact ⟨-k, by grind⟩
theorem Eqm.trans {p a b c : Int} (h : Eqm p a b) (h2 : Eqm p b c) : Eqm p a c := by obtain ⟨k, h⟩ := h; obtain ⟨l, h2⟩ := h2; exact ⟨k + l, by grind⟩
theorem Eqm.add {p a b c d : Int} (h : Eqm p a b) (h2 : Eqm p c d) : Eqm p (a + c) (b + d) := by obtain ⟨k, h⟩ := h; obtain ⟨l, h2⟩ := h2; exact ⟨k + l, by grind⟩
theorem Eqm.mul {p a b c d : Int} (h : Eqm p a b) (h2 : Eqm p c d) : Eqm p (a * c) (b * d) := by obtain ⟨k, h⟩ := h; obtain ⟨l, h2⟩ := h2; exact ⟨k * d + b * l + p * k * l, by grind⟩
theorem Eqm.mod (p a : Int) : Eqm p (a % p) a := ⟨-(a / p), by have := Int.emod_add_mul_ediv a p; grind⟩
/-- A row's elements. -/
def elm (r : List Int) (j : Nat) : Int := r.getD j 0
/-- What one column does to the elements: the row a goes to the place n, and is taken off all others. -/
structure StepR (p : Int) (C c n a : Nat) (A B : List (List Int)) : Prop where
  len : B.length = A.length
  at_n : ∀ j, Eqm p (elm (grp B n) j) (elm (grp A a) j * invB p (elm (grp A a) c))
  other : ∀ i, i < A.length → i ≠ n → ∀ j, Eqm p (elm (grp B i) j) (elm (grp A (if i = a then n else i)) j + elm (grp B n) j * (p - elm (grp A (if i = a then n else i)) c))
end Go.Proofs.Ytjpbemomocccaaa.P

namespace Go.Proofs.Ytjpbemomocccaaa.P
open Go.RowKit Go.Proofs.YtjpbemomocccaaaW.PrintWords Go.Proofs.YtjpbemomocccaaaW.PrintLast Go.Proofs.YtjpbemomocccaaaW.PrintMore
attribute [local go_sem] max2_int min2_int max_two min_two max_three min_three max_four min_four
set_option linter.unusedVariables false
set_option linter.unusedSimpArgs false

/-- What is known of the rows and the columns of their first elements, behind the columns below c. -/
structure RrefP (p : Int) (C c : Nat) (s : List (List Int) × List Int) : Prop where
  zero : ∀ i, s.2.length ≤ i → i < s.1.length → ∀ j, j < c → elm (grp s.1 i) j = 0
  lt : ∀ k, k < s.2.length → 0 ≤ rd s.2 (k : Int) ∧ rd s.2 (k : Int) < (c : Int)
  incr : ∀ k l, k < l → l < s.2.length → rd s.2 (k : Int) < rd s.2 (l : Int)
  delta : ∀ k, k < s.2.length → ∀ i, i < s.1.length → elm (grp s.1 i) (rd s.2 (k : Int)).toNat = if i = k then 1 else 0
  left : ∀ k, k < s.2.length → ∀ j, j < (rd s.2 (k : Int)).toNat → elm (grp s.1 k) j = 0
end Go.Proofs.Ytjpbemomocccaaa.P

namespace Go.Proofs.Ytjpbemomocccaaa.P
open Go.RowKit Go.Proofs.YtjpbemomocccaaaW.PrintWords Go.Proofs.YtjpbemomocccaaaW.PrintLast Go.Proofs.YtjpbemomocccaaaW.PrintMore
attribute [local go_sem] max2_int min2_int max_two min_two max_three min_three max_four min_four
set_option linter.unusedVariables false
set_option linter.unusedSimpArgs false

/-! ### slices_Index_int_int: function 113 -/
end Go.Proofs.Ytjpbemomocccaaa.P

namespace Go.Proofs.Ytjpbemomocccaaa.P
open Go.RowKit Go.Proofs.YtjpbemomocccaaaW.PrintWords Go.Proofs.YtjpbemomocccaaaW.PrintLast Go.Proofs.YtjpbemomocccaaaW.PrintMore
attribute [local go_sem] max2_int min2_int max_two min_two max_three min_three max_four min_four
set_option linter.unusedVariables false
set_option linter.unusedSimpArgs false

/-! ### spec_l00Has: function 96 -/
end Go.Proofs.Ytjpbemomocccaaa.P

namespace Go.Proofs.Ytjpbemomocccaaa.P
open Go.RowKit Go.Proofs.YtjpbemomocccaaaW.PrintWords Go.Proofs.YtjpbemomocccaaaW.PrintLast Go.Proofs.YtjpbemomocccaaaW.PrintMore
attribute [local go_sem] max2_int min2_int max_two min_two max_three min_three max_four min_four
set_option linter.unusedVariables false
set_option linter.unusedSimpArgs false

/-! ### spec_l03Kernel: function 56 -/
end Go.Proofs.Ytjpbemomocccaaa.P

namespace Go.Proofs.Ytjpbemomocccaaa.P
open Go.RowKit Go.Proofs.YtjpbemomocccaaaW.PrintWords Go.Proofs.YtjpbemomocccaaaW.PrintLast Go.Proofs.YtjpbemomocccaaaW.PrintMore
attribute [local go_sem] max2_int min2_int max_two min_two max_three min_three max_four min_four
set_option linter.unusedVariables false
set_option linter.unusedSimpArgs false

/-! ### spec_KernelOf: function 19 -/
end Go.Proofs.Ytjpbemomocccaaa.P

namespace Go.Proofs.Ytjpbemomocccaaa.P
open Go.RowKit Go.Proofs.YtjpbemomocccaaaW.PrintWords Go.Proofs.YtjpbemomocccaaaW.PrintLast Go.Proofs.YtjpbemomocccaaaW.PrintMore
attribute [local go_sem] max2_int min2_int max_two min_two max_three min_three max_four min_four
set_option linter.unusedVariables false
set_option linter.unusedSimpArgs false

/-! ### slices_Contains_int_int: function 97 -/
end Go.Proofs.Ytjpbemomocccaaa.P

namespace Go.Proofs.Ytjpbemomocccaaa.P
open Go.RowKit Go.Proofs.YtjpbemomocccaaaW.PrintWords Go.Proofs.YtjpbemomocccaaaW.PrintLast Go.Proofs.YtjpbemomocccaaaW.PrintMore
attribute [local go_sem] max2_int min2_int max_two min_two max_three min_three max_four min_four
set_option linter.unusedVariables false
set_option linter.unusedSimpArgs false

/-! ### impl_Matrix_kernel: function 58 -/
end Go.Proofs.Ytjpbemomocccaaa.P

namespace Go.Proofs.Ytjpbemomocccaaa.P
open Go.RowKit Go.Proofs.YtjpbemomocccaaaW.PrintWords Go.Proofs.YtjpbemomocccaaaW.PrintLast Go.Proofs.YtjpbemomocccaaaW.PrintMore
attribute [local go_sem] max2_int min2_int max_two min_two max_three min_three max_four min_four
set_option linter.unusedVariables false
set_option linter.unusedSimpArgs false

/-! ### impl_KernelOf: function 20 -/
end Go.Proofs.Ytjpbemomocccaaa.P

namespace Go.Proofs.Ytjpbemomocccaaa.P
open Go.RowKit Go.Proofs.YtjpbemomocccaaaW.PrintWords Go.Proofs.YtjpbemomocccaaaW.PrintLast Go.Proofs.YtjpbemomocccaaaW.PrintMore
attribute [local go_sem] max2_int min2_int max_two min_two max_three min_three max_four min_four
set_option linter.unusedVariables false
set_option linter.unusedSimpArgs false

end Go.Proofs.Ytjpbemomocccaaa.P

namespace Go.Proofs.Ytjpbemomocccaaa.P
open Go.RowKit Go.Proofs.YtjpbemomocccaaaW.PrintWords Go.Proofs.YtjpbemomocccaaaW.PrintLast Go.Proofs.YtjpbemomocccaaaW.PrintMore
attribute [local go_sem] max2_int min2_int max_two min_two max_three min_three max_four min_four
set_option linter.unusedVariables false
set_option linter.unusedSimpArgs false

theorem grp_ext {A B : List (List Int)} (hl : A.length = B.length) (h : ∀ i, i < A.length → grp A i = grp B i) : A = B := list_eq_getD [] hl h
end Go.Proofs.Ytjpbemomocccaaa.P

namespace Go.Proofs.Ytjpbemomocccaaa.P
open Go.RowKit Go.Proofs.YtjpbemomocccaaaW.PrintWords Go.Proofs.YtjpbemomocccaaaW.PrintLast Go.Proofs.YtjpbemomocccaaaW.PrintMore
attribute [local go_sem] max2_int min2_int max_two min_two max_three min_three max_four min_four
set_option linter.unusedVariables false
set_option linter.unusedSimpArgs false

/-- The rows behind c and ahead of m, turned by f. -/
def lowB (f : Nat → List Int) (rows : List (List Int)) (c m : Nat) : List (List Int) := (List.range rows.length).map fun r => if c < r ∧ r < m then f r else grp rows r
theorem lowB_length (f : Nat → List Int) (rows : List (List Int)) (c m : Nat) : (lowB f rows c m).length = rows.length := by simp [lowB]
theorem lowB_grp {f : Nat → List Int} {rows : List (List Int)} {c m r : Nat} (hr : r < rows.length) : grp (lowB f rows c m) r = if c < r ∧ r < m then f r else grp rows r := by
  unfold lowB
  exact getD_map _ _ _ _ hr
theorem lowB_start (f : Nat → List Int) (rows : List (List Int)) (c : Nat) : lowB f rows c (c + 1) = rows := by
  refine grp_ext (lowB_length _ _ _ _) fun i hi => ?_
  rw [lowB_length] at hi
  rw [lowB_grp hi, if_neg (by omega)]
theorem lowB_next {f : Nat → List Int} {rows : List (List Int)} {c m : Nat} (hc : c < m) (hm : m < rows.length) : (lowB f rows c m).set m (f m) = lowB f rows c (m + 1) := by
  refine grp_ext (by rw [List.length_set, lowB_length, lowB_length]) fun i hi => ?_
  rw [List.length_set, lowB_length] at hi
  rw [lowB_grp hi]
  refine Eq.trans (getD_set _ _ _ _ _ (by rw [lowB_length]; exact hm)) ?_
  by_cases h : i = m
  · subst h; rw [if_pos rfl, if_pos (by omega)]
  · rw [if_neg h]
    refine Eq.trans (lowB_grp hi) ?_
    by_cases h2 : c < i ∧ i < m
    · rw [if_pos h2, if_pos (by omega)]
    · rw [if_neg h2, if_neg (by omega)]
def lowI (p : Int) (c : Nat) (S : List (List Int)) (r : Nat) : List Int := addB p (grp S r) (grp S c) (p - (grp S r).getD c 0)
def lowS (p inv : Int) (c : Nat) (S : List (List Int)) (r : Nat) : List Int := addB p (grp S r) (grp S c) (((p - (grp S r).getD c 0) * inv) % p)
theorem impl_low_ev {p : Int} {C c : Nat} {S : List (List Int)} (hp : 2 ≤ p ∧ p ≤ 31) (hC : C ≤ 1000) (hl : S.length ≤ 1000) (hM : MatP p C S) (hc : c < C) (hcl : c < S.length) : Ev (fun k => impl_DeterminantOf.l2 k p (c : Int) S 0) (lowB (lowI p c S) S c S.length) := by
  have key : ∀ d i : Nat, i + d = S.length - (c + 1) → Ev (fun k => impl_DeterminantOf.l2 k p (c : Int) (lowB (lowI p c S) S c (c + 1 + i)) (i : Int)) (lowB (lowI p c S) S c S.length) := by
    intro d
    induction d with
    | zero =>
      intro i hi
      rw [show c + 1 + i = S.length by omega]
      refine Ev.step (f := fun _ => some (lowB (lowI p c S) S c S.length)) (fun k => ?_) (Ev.now _)
      simp only [impl_DeterminantOf.l2]
      rw [if_neg (by rw [lowB_length]; omega)]
    | succ d ih =>
      intro i hi
      have hm : c + 1 + i < S.length := by omega
      have e1 : rd_L1 (lowB (lowI p c S) S c (c + 1 + i)) ((c : Int) + 1 + (i : Int)) = grp S (c + 1 + i) := by
        rw [show (c : Int) + 1 + (i : Int) = ((c + 1 + i : Nat) : Int) by omega, rdL_cast, lowB_grp hm, if_neg (by omega)]
      have e2 : rd_L1 (lowB (lowI p c S) S c (c + 1 + i)) (c : Int) = grp S c := by rw [rdL_cast, lowB_grp hcl, if_neg (by omega)]
      have hr := hM _ hm
      have hr1 := hr.1
      have hn := ih (i + 1) (by omega)
      rw [show c + 1 + (i + 1) = c + 1 + i + 1 by omega, ← lowB_next (f := lowI p c S) (by omega) hm] at hn
      refine Ev.step (f := fun k => (impl_takeOff.f k p (grp S (c + 1 + i)) (grp S c) ((grp S (c + 1 + i)).getD c 0)).bind fun t => impl_DeterminantOf.l2 k p (c : Int) ((lowB (lowI p c S) S c (c + 1 + i)).set (c + 1 + i) t) ((i + 1 : Nat) : Int)) (fun k => ?_) (Ev.bind (impl_takeOff_ev hp hC hr (hM _ hcl) (by have := hr.2 c; omega)) hn)
      simp only [impl_DeterminantOf.l2]
      rw [if_pos (by rw [lowB_length]; omega), if_pos (by omega), e1, e2, if_pos (by omega), rd_cast, wr (by omega) (by omega), show ((c : Int) + 1 + (i : Int)).toNat = c + 1 + i by omega]
      rfl
  have := key (S.length - (c + 1)) 0 (by omega)
  rw [Nat.add_zero, lowB_start] at this
  exact this
theorem spec_low_ev {p inv : Int} {C c : Nat} {S : List (List Int)} (hp : 2 ≤ p ∧ p ≤ 31) (hC : C ≤ 1000) (hl : S.length ≤ 1000) (hM : MatP p C S) (hc : c < C) (hcl : c < S.length) (hinv : 0 ≤ inv ∧ inv ≤ p - 1) : Ev (fun k => spec_DeterminantOf.l2 k p (c : Int) inv S ((c + 1 : Nat) : Int)) (lowB (lowS p inv c S) S c S.length) := by
  have key : ∀ d i : Nat, i + d = S.length → c < i → Ev (fun k => spec_DeterminantOf.l2 k p (c : Int) inv (lowB (lowS p inv c S) S c i) (i : Int)) (lowB (lowS p inv c S) S c S.length) := by
    intro d
    induction d with
    | zero =>
      intro i hi hci
      obtain rfl : i = S.length := by omega
      refine Ev.step (f := fun _ => some (lowB (lowS p inv c S) S c S.length)) (fun k => ?_) (Ev.now _)
      simp only [spec_DeterminantOf.l2]
      rw [if_neg (by rw [lowB_length]; omega)]
    | succ d ih =>
      intro i hi hci
      have hm : i < S.length := by omega
      have e1 : rd_L1 (lowB (lowS p inv c S) S c i) (i : Int) = grp S i := by rw [rdL_cast, lowB_grp hm, if_neg (by omega)]
      have e2 : rd_L1 (lowB (lowS p inv c S) S c i) (c : Int) = grp S c := by rw [rdL_cast, lowB_grp hcl, if_neg (by omega)]
      have hr := hM _ hm
      have hr1 := hr.1
      have hrc := hr.2 c
      have hn := ih (i + 1) (by omega) (by omega)
      rw [← lowB_next (f := lowS p inv c S) hci hm] at hn
      have hmul := mul_le31 hp (a := inv) (b := p - (grp S i).getD c 0) hinv (by omega)
      have hb : Int.tmod (wrap64 (wrap64 (p - (grp S i).getD c 0) * inv)) p = ((p - (grp S i).getD c 0) * inv) % p := by
        rw [wr (x := p - _) (by omega) (by omega), Int.mul_comm, wr (by omega) (by omega), Int.tmod_eq_emod_of_nonneg (by omega)]
      have hmr := mod_range hp.1 ((p - (grp S i).getD c 0) * inv)
      refine Ev.step (f := fun k => (spec_l03Add.f k p (grp S i) (grp S c) (((p - (grp S i).getD c 0) * inv) % p)).bind fun t => spec_DeterminantOf.l2 k p (c : Int) inv ((lowB (lowS p inv c S) S c i).set i t) ((i + 1 : Nat) : Int)) (fun k => ?_) (Ev.bind (spec_l03Add_ev hp hC hr (hM _ hcl) (by omega)) hn)
      simp only [spec_DeterminantOf.l2]
      rw [if_pos (by rw [lowB_length]; omega), if_pos (by omega), e1, e2, if_pos (by omega), rd_cast, hb, wr (by omega) (by omega)]
      rfl
  have := key (S.length - (c + 1)) (c + 1) (by omega) (by omega)
  rw [lowB_start] at this
  exact this
theorem low_mat {p : Int} {C c : Nat} {f : Nat → List Int} {S : List (List Int)} (hM : MatP p C S) (hf : ∀ r, c < r → r < S.length → RowP p C (f r)) : MatP p C (lowB f S c S.length) := by
  intro i hi
  rw [lowB_length] at hi
  rw [lowB_grp hi]
  split
  · rename_i h; exact hf i h.1 h.2
  · exact hM i hi
structure AgrB (p : Int) (C c : Nat) (A B : List (List Int)) : Prop where
  la : A.length = C
  lb : B.length = C
  ma : MatP p C A
  mb : MatP p C B
  eq : ∀ r, c ≤ r → r < C → grp A r = grp B r
theorem findN_agr {p : Int} {C c x : Nat} {A B : List (List Int)} (h : AgrB p C c A B) : ∀ (d a : Nat), a + d = C → c ≤ a → findN A x a = findN B x a := by
  intro d
  induction d with
  | zero => intro a ha _; rw [findN_end (rows := A) (by have := h.la; omega), findN_end (rows := B) (by have := h.lb; omega)]
  | succ d ih =>
    intro a ha hca
    have e := h.eq a hca (by omega)
    by_cases h0 : (grp A a).getD x 0 = 0
    · rw [findN_next (rows := A) (by have := h.la; omega) h0, findN_next (rows := B) (a := a) (by have := h.lb; omega) (by rw [← e]; exact h0), ih (a + 1) (by omega) (by omega)]
    · rw [findN_here (rows := A) (by have := h.la; omega) h0, findN_here (rows := B) (a := a) (by have := h.lb; omega) (by rw [← e]; exact h0)]
theorem eqm_emod {p a b : Int} (h : Eqm p a b) : a % p = b % p := by
  obtain ⟨k, rfl⟩ := h
  exact Int.add_mul_emod_self_left b p k
theorem low_row {p inv x : Int} {C : Nat} {u v : List Int} (hu : u.length = C) (hv : v.length = C) : addB p u (timesB p inv v) x = addB p u v (x * inv % p) := by
  refine list_eq_getD 0 (by simp [addB]) fun j hj => ?_
  have hj2 : j < u.length := by simpa [addB] using hj
  unfold addB
  rw [getD_map _ _ _ _ hj2, getD_map _ _ _ _ hj2]
  unfold timesB
  rw [getD_map _ _ _ _ (by omega)]
  refine eqm_emod (Eqm.add (Eqm.rfl_ _ _) ?_)
  refine Eqm.trans (Eqm.mul (Eqm.mod _ _) (Eqm.rfl_ _ _)) (Eqm.symm (Eqm.trans (Eqm.mul (Eqm.rfl_ _ _) (Eqm.mod _ _)) (Eqm.of_eq ?_)))
  rw [Int.mul_assoc, Int.mul_comm inv x]
theorem agr_step {p inv : Int} {C c : Nat} {A B : List (List Int)} (hp : 2 ≤ p) (h : AgrB p C c A B) (hc : c < C) : AgrB p C (c + 1) (lowB (lowI p c (A.set c (timesB p inv (grp A c)))) (A.set c (timesB p inv (grp A c))) c C) (lowB (lowS p inv c B) B c C) := by
  have hA := h.la
  have hB := h.lb
  have hS : MatP p C (A.set c (timesB p inv (grp A c))) := set_mat h.ma (by omega) (timesB_row hp (h.ma c (by omega)))
  have hSl : (A.set c (timesB p inv (grp A c))).length = C := by rw [List.length_set]; exact hA
  have gS : ∀ r, r < C → grp (A.set c (timesB p inv (grp A c))) r = if r = c then timesB p inv (grp A c) else grp A r := fun r hr => getD_set _ _ _ _ _ (by omega)
  refine ⟨by rw [lowB_length]; exact hSl, by rw [lowB_length]; exact hB, ?_, ?_, fun r hr hrC => ?_⟩
  · have := low_mat (c := c) (f := lowI p c (A.set c (timesB p inv (grp A c)))) hS (fun r _ hr => addB_row hp (hS r hr))
    rwa [hSl] at this
  · have := low_mat (c := c) (f := lowS p inv c B) h.mb (fun r _ hr => addB_row hp (h.mb r hr))
    rwa [hB] at this
  · rw [lowB_grp (by omega), lowB_grp (by omega), if_pos (by omega), if_pos (by omega)]
    unfold lowI lowS
    rw [gS r hrC, if_neg (by omega), gS c hc, if_pos rfl, ← h.eq r (by omega) hrC, ← h.eq c (Nat.le_refl _) hc]
    exact low_row (h.ma r (by omega)).1 (h.ma c (by omega)).1
theorem agr_swap {p : Int} {C c a : Nat} {A B : List (List Int)} (h : AgrB p C c A B) (hc : c < C) (hca : c ≤ a) (ha : a < C) : AgrB p C c (swapB A a c) (swapB B a c) := by
  have hA := h.la
  have hB := h.lb
  refine ⟨by rw [swapB_length]; exact hA, by rw [swapB_length]; exact hB, swap_mat h.ma (by omega) (by omega), swap_mat h.mb (by omega) (by omega), fun r hr hrC => ?_⟩
  rw [swapB_grp (by omega) (by omega), swapB_grp (by omega) (by omega), h.eq a hca ha, h.eq c (Nat.le_refl _) hc, h.eq r hr hrC]
theorem det_step {p out : Int} {C c : Nat} {A B : List (List Int)} (hp : 2 ≤ p ∧ p ≤ 31) (hC : C ≤ 1000) (h : AgrB p C c A B) (hc : c < C) (ho : 0 ≤ out ∧ out ≤ p - 1) :
    ∃ A2 B2 o2, Ev (fun k => impl_DeterminantOf.st k p (c : Int) A out) (A2, o2) ∧ Ev (fun k => spec_DeterminantOf.st k p (c : Int) B out) (B2, o2) ∧ AgrB p C (c + 1) A2 B2 ∧ 0 ≤ o2 ∧ o2 ≤ p - 1 := by
  have hA := h.la
  have hB := h.lb
  have hac := h.ma c (by omega)
  have hac1 := hac.1
  have hx := hac.2 c
  have e := h.eq c (Nat.le_refl _) hc
  have hinv := invB_range (a := (grp A c).getD c 0) hp.1
  have hmul := mul_le31 hp (a := out) (b := (grp A c).getD c 0) ho (by omega)
  have hmr := mod_range hp.1 (out * (grp A c).getD c 0)
  have hot : Int.tmod (wrap64 (out * (grp A c).getD c 0)) p = (out * (grp A c).getD c 0) % p := by rw [wr (by omega) (by omega), Int.tmod_eq_emod_of_nonneg (by omega)]
  have hS : MatP p C (A.set c (timesB p (invB p ((grp A c).getD c 0)) (grp A c))) := set_mat h.ma (by omega) (timesB_row hp.1 hac)
  have hSl : (A.set c (timesB p (invB p ((grp A c).getD c 0)) (grp A c))).length = C := by rw [List.length_set]; exact hA
  have l1 := impl_low_ev hp hC (by omega) hS hc (by omega)
  have l2 := spec_low_ev (inv := invB p ((grp A c).getD c 0)) hp hC (by omega) h.mb hc (by omega) hinv
  rw [hSl] at l1
  rw [hB] at l2
  refine ⟨_, _, (out * (grp A c).getD c 0) % p, ?_, ?_, agr_step (inv := invB p ((grp A c).getD c 0)) hp.1 h hc, hmr.1, hmr.2⟩
  · unfold impl_DeterminantOf.st
    simp only [rdL_cast, rd_cast, Int.toNat_natCast, if_pos (show (0 : Int) ≤ (c : Int) by omega), if_pos (show (c : Int) < (A.length : Int) by omega), if_pos (show A.length ≤ 1048576 by omega), if_pos (show (c : Int) < ((grp A c).length : Int) by omega), if_neg (show ¬ p = 0 by omega), hot]
    exact Ev.bind (impl_inverse_ev p _ hp hx) (Ev.bind (impl_scaled_ev hp hC hac (by omega)) (Ev.bind l1 (Ev.now _)))
  · unfold spec_DeterminantOf.st
    simp only [rdL_cast, rd_cast, ← e, if_pos (show (0 : Int) ≤ (c : Int) by omega), if_pos (show (c : Int) < (B.length : Int) by omega), if_pos (show B.length ≤ 1048576 by omega), if_pos (show (c : Int) < ((grp A c).length : Int) by omega), if_neg (show ¬ p = 0 by omega), hot, wr (x := (c : Int) + 1) (by omega) (by omega)]
    exact Ev.bind (spec_inverse_ev p _ hp hx) (Ev.bind l2 (Ev.now _))
theorem det_loop {p : Int} {C : Nat} (hp : 2 ≤ p ∧ p ≤ 31) (hC : C ≤ 1000) : ∀ (d c : Nat) (A B : List (List Int)) (out : Int), c + d = C → AgrB p C c A B → 0 ≤ out ∧ out ≤ p - 1 → ∃ r, Ev (fun k => impl_DeterminantOf.l0 k p (C : Int) A out (c : Int)) (r, 0) ∧ Ev (fun k => spec_DeterminantOf.l0 k p B out (c : Int)) (r, 0) := by
  intro d
  induction d with
  | zero =>
    intro c A B out hc h ho
    have hB := h.lb
    refine ⟨out, Ev.step (f := fun _ => some (out, 0)) (fun k => ?_) (Ev.now _), Ev.step (f := fun _ => some (out, 0)) (fun k => ?_) (Ev.now _)⟩
    · simp only [impl_DeterminantOf.l0]
      rw [if_neg (by omega)]
    · simp only [spec_DeterminantOf.l0]
      rw [if_neg (by omega)]
  | succ d ih =>
    intro c A B out hc h ho
    have hA := h.la
    have hB := h.lb
    have hcC : c < C := by omega
    have hf := findN_agr (x := c) h (C - c) c (by omega) (Nat.le_refl _)
    have f1 := findB_ev h.ma hcC (by omega) (A.length - c) c (by omega)
    have f2 := findB_ev h.mb hcC (by omega) (B.length - c) c (by omega)
    rw [← hf] at f2
    obtain ⟨g1, g2, g3, g4⟩ := findN_le (rows := A) (c := c) (A.length - c) c (by omega)
    have s1 : ∀ k, impl_DeterminantOf.l0 (k + 1) p (C : Int) A out (c : Int) = (findB k A (c : Int) (c : Int)).bind fun a => if a = (A.length : Int) then some (0, 0) else (if a = (c : Int) then ((impl_DeterminantOf.st k p (c : Int) A out).bind fun t => impl_DeterminantOf.l0 k p (C : Int) t.1 t.2 ((c + 1 : Nat) : Int)) else (if 0 ≤ a then (if a < (A.length : Int) then (if (0 : Int) ≤ (c : Int) then (if (c : Int) < (A.length : Int) then (if p = 0 then none else ((impl_DeterminantOf.st k p (c : Int) (swapB A a.toNat (c : Int).toNat) (Int.tmod (wrap64 (p - out)) p)).bind fun t => impl_DeterminantOf.l0 k p (C : Int) t.1 t.2 ((c + 1 : Nat) : Int))) else none) else none) else none) else none)) := fun k => by
      simp only [impl_DeterminantOf.l0]
      rw [if_pos (by omega), wr (x := (c : Int) + 1) (by omega) (by omega)]
      rfl
    have s2 : ∀ k, spec_DeterminantOf.l0 (k + 1) p B out (c : Int) = (findB k B (c : Int) (c : Int)).bind fun a => if a = (B.length : Int) then some (0, 0) else (if (c : Int) < a then (if 0 ≤ a then (if a < (B.length : Int) then (if (0 : Int) ≤ (c : Int) then (if p = 0 then none else ((spec_DeterminantOf.st k p (c : Int) (swapB B a.toNat (c : Int).toNat) (Int.tmod (wrap64 (p - out)) p)).bind fun t => spec_DeterminantOf.l0 k p t.1 t.2 ((c + 1 : Nat) : Int))) else none) else none) else none) else ((spec_DeterminantOf.st k p (c : Int) B out).bind fun t => spec_DeterminantOf.l0 k p t.1 t.2 ((c + 1 : Nat) : Int))) := fun k => by
      simp only [spec_DeterminantOf.l0]
      rw [if_pos (by omega), if_pos (by omega), wr (x := (c : Int) + 1) (by omega) (by omega)]
      rfl
    have key : ∀ r : Int, Ev (fun k => (if ((findN A c c : Nat) : Int) = (A.length : Int) then some ((0 : Int), (0 : Int)) else (if ((findN A c c : Nat) : Int) = (c : Int) then ((impl_DeterminantOf.st k p (c : Int) A out).bind fun t => impl_DeterminantOf.l0 k p (C : Int) t.1 t.2 ((c + 1 : Nat) : Int)) else (if 0 ≤ ((findN A c c : Nat) : Int) then (if ((findN A c c : Nat) : Int) < (A.length : Int) then (if (0 : Int) ≤ (c : Int) then (if (c : Int) < (A.length : Int) then (if p = 0 then none else ((impl_DeterminantOf.st k p (c : Int) (swapB A ((findN A c c : Nat) : Int).toNat (c : Int).toNat) (Int.tmod (wrap64 (p - out)) p)).bind fun t => impl_DeterminantOf.l0 k p (C : Int) t.1 t.2 ((c + 1 : Nat) : Int))) else none) else none) else none) else none)))) (r, 0) → Ev (fun k => impl_DeterminantOf.l0 k p (C : Int) A out (c : Int)) (r, 0) := fun r hr => Ev.step s1 (Ev.bind f1 hr)
    have key2 : ∀ r : Int, Ev (fun k => (if ((findN A c c : Nat) : Int) = (B.length : Int) then some ((0 : Int), (0 : Int)) else (if (c : Int) < ((findN A c c : Nat) : Int) then (if 0 ≤ ((findN A c c : Nat) : Int) then (if ((findN A c c : Nat) : Int) < (B.length : Int) then (if (0 : Int) ≤ (c : Int) then (if p = 0 then none else ((spec_DeterminantOf.st k p (c : Int) (swapB B ((findN A c c : Nat) : Int).toNat (c : Int).toNat) (Int.tmod (wrap64 (p - out)) p)).bind fun t => spec_DeterminantOf.l0 k p t.1 t.2 ((c + 1 : Nat) : Int))) else none) else none) else none) else ((spec_DeterminantOf.st k p (c : Int) B out).bind fun t => spec_DeterminantOf.l0 k p t.1 t.2 ((c + 1 : Nat) : Int))))) (r, 0) → Ev (fun k => spec_DeterminantOf.l0 k p B out (c : Int)) (r, 0) := fun r hr => Ev.step s2 (Ev.bind f2 hr)
    generalize findN A c c = a at *
    by_cases hn : a = C
    · refine ⟨0, key 0 ?_, key2 0 ?_⟩
      · simp only [if_pos (show (a : Int) = (A.length : Int) by omega)]; exact Ev.now _
      · simp only [if_pos (show (a : Int) = (B.length : Int) by omega)]; exact Ev.now _
    · by_cases hac : a = c
      · obtain ⟨A2, B2, o2, e1, e2, hag, ho2⟩ := det_step hp hC h hcC ho
        obtain ⟨r, i1, i2⟩ := ih (c + 1) A2 B2 o2 (by omega) hag ho2
        refine ⟨r, key r ?_, key2 r ?_⟩
        · simp only [if_neg (show ¬ (a : Int) = (A.length : Int) by omega), if_pos (show (a : Int) = (c : Int) by omega)]
          exact Ev.bind e1 i1
        · simp only [if_neg (show ¬ (a : Int) = (B.length : Int) by omega), if_neg (show ¬ (c : Int) < (a : Int) by omega)]
          exact Ev.bind e2 i2
      · have ho3 : Int.tmod (wrap64 (p - out)) p = (p - out) % p := by rw [wr (by omega) (by omega), Int.tmod_eq_emod_of_nonneg (by omega)]
        have hm3 := mod_range hp.1 (p - out)
        obtain ⟨A2, B2, o2, e1, e2, hag, ho2⟩ := det_step hp hC (agr_swap h hcC g1 (by omega)) hcC hm3
        obtain ⟨r, i1, i2⟩ := ih (c + 1) A2 B2 o2 (by omega) hag ho2
        refine ⟨r, key r ?_, key2 r ?_⟩
        · simp only [if_neg (show ¬ (a : Int) = (A.length : Int) by omega), if_neg (show ¬ (a : Int) = (c : Int) by omega), if_pos (show (0 : Int) ≤ (a : Int) by omega), if_pos (show (a : Int) < (A.length : Int) by omega), if_pos (show (0 : Int) ≤ (c : Int) by omega), if_pos (show (c : Int) < (A.length : Int) by omega), if_neg (show ¬ p = 0 by omega), Int.toNat_natCast, ho3]
          exact Ev.bind e1 i1
        · simp only [if_neg (show ¬ (a : Int) = (B.length : Int) by omega), if_pos (show (c : Int) < (a : Int) by omega), if_pos (show (0 : Int) ≤ (a : Int) by omega), if_pos (show (a : Int) < (B.length : Int) by omega), if_pos (show (0 : Int) ≤ (c : Int) by omega), if_neg (show ¬ p = 0 by omega), Int.toNat_natCast, ho3]
          exact Ev.bind e2 i2
theorem det_both (p cols : Int) (rows : List (List Int)) (hl : rows.length ≤ 4611686018427387904) (hr : ∀ r ∈ rows, r.length ≤ 4611686018427387904) : ∃ r1 r2, Ev (fun k => spec_DeterminantOf.f k p cols rows) (r1, r2) ∧ Ev (fun k => impl_DeterminantOf.f k p cols rows) (r1, r2) := by
  have v1 := spec_l03Ok_ev p cols rows hl hr
  have v2 := impl_ValidMatrix_ev p cols rows hl hr
  unfold spec_DeterminantOf.f impl_DeterminantOf.f
  cases hv : validMB p cols rows with
  | false =>
    rw [hv] at v1 v2
    exact ⟨0, 1, Ev.bind v1 (Ev.now _), Ev.bind v2 (Ev.now _)⟩
  | true =>
    rw [hv] at v1 v2
    obtain ⟨h1, h2, h3, h4, h5⟩ := MatP_of_valid hv
    by_cases hsq : (rows.length : Int) = cols
    · obtain ⟨n, rfl⟩ : ∃ n : Nat, cols = (n : Int) := ⟨cols.toNat, h2.symm⟩
      simp only [Int.toNat_natCast] at *
      have hln : rows.length = n := by omega
      have hs := mat_small h5
      obtain ⟨r, d1, d2⟩ := det_loop h1 (C := n) (by omega) n 0 rows rows 1 (by omega) ⟨hln, hln, h5, h5, fun _ _ _ => rfl⟩ (by omega)
      refine ⟨r, 0, Ev.bind v1 ?_, Ev.bind v2 ?_⟩
      · simp only [if_true, if_pos hsq]
        exact Ev.bind (spec_l03Copy_ev p (n : Int) rows (by omega) (fun r hr => by rw [hs r hr]; omega)) d2
      · simp only [if_true, impl_Matrix_isSquare.f, Option.bind_some, hsq, beq_self_eq_true]
        refine Ev.bind (impl_copyRows_ev rows (by omega) (fun r hr => by rw [hs r hr]; omega)) ?_
        rw [hsq]
        exact d1
    · refine ⟨0, 2, Ev.bind v1 ?_, Ev.bind v2 ?_⟩
      · simp only [if_true, if_neg hsq]; exact Ev.now _
      · simp only [if_true, impl_Matrix_isSquare.f, Option.bind_some, show ((rows.length : Int) == cols) = false from beq_eq_false_iff_ne.mpr hsq, Bool.false_eq_true, if_false]; exact Ev.now _

end Go.Proofs.Ytjpbemomocccaaa.P

/- For every matrix the program's DeterminantOf and the reference's answer alike, and the argument stays. -/
namespace Go.Proofs.Ytjpbemomocccaaa.Pure
open Go.RowKit Go.Proofs.Ytjpbemomocccaaa.P Go.Proofs.YtjpbemomocccaaaW.PrintWords Go.Proofs.YtjpbemomocccaaaW.PrintLast Go.Proofs.YtjpbemomocccaaaW.PrintMore
set_option linter.unusedVariables false
set_option linter.unusedSimpArgs false

theorem FnExactDeterminantOf : laws_FnExactDeterminantOf.Pure := by
  intro x hx
  obtain ⟨xp, xc, xs⟩ := x
  have hl : xs.length ≤ 9223372036854775807 := hx.2.2.1
  have hr : ∀ r ∈ xs, r.length ≤ 9223372036854775807 := fun r h => (hx.2.2.2 r h).1
  have s1 := szMatrix_ev xp xc xs 1048576 (by omega) hl hr
  by_cases h : (bulk xs : Int) ≤ 1048576
  · rw [if_pos h] at s1
    obtain ⟨h1, h2⟩ := bulk_len (rows := xs) (n := 1048576) (by omega)
    have h3 : ∀ r ∈ xs, r.length ≤ 4611686018427387904 := fun r hr => Nat.le_trans (h2 r hr) (by omega)
    obtain ⟨r1, r2, e1, e2⟩ := det_both xp xc xs (by omega) h3
    obtain ⟨k, a1, a2, a3, a4, a5⟩ := From.now (From.and s1 (From.and (toMatrix_ev xp xc xs h1 h2) (From.and e1 (From.and e2 (eqMatrix_same xp xc xs h1 h2)))))
    exact Or.inr ⟨k, _, r1, r2, a1, decide_eq_false (by omega), a2, a3, a2, a4, a2, a5⟩
  · rw [if_neg h] at s1
    obtain ⟨k, a1⟩ := From.now s1
    exact Or.inl ⟨k, _, a1, by decide⟩

end Go.Proofs.Ytjpbemomocccaaa.Pure

/- The row of the law FnExactDeterminantOf: whatever its arguments, it answers true, and they read as before. No condition. -/
namespace Go.Proofs.Ytjpbemomocccaaa.fnExactDeterminantOf
open Go.ChangeShapes Go.WideShapes Go.ChangeAt Go.RowKit Go.Proofs.Ytjpbemomocccaaa.P Go.Proofs.YtjpbemomocccaaaW.PrintWords Go.Proofs.YtjpbemomocccaaaW.PrintLast Go.Proofs.YtjpbemomocccaaaW.PrintMore
open Go.ChangeMaps (open_string shut_string)
set_option linter.unusedVariables false
theorem own : ownKnob Try.prog.godebug = none := by kernel_rfl
theorem laidOut : laidOutB Try.prog = true := by kernel_rfl
set_option maxRecDepth 100000 in
theorem lifted (os : Os) (started : os.Started) (H : Type) (enc : TypeId × Value → H) :
    ReturnsInHanded {} Try.checked os 6 .any (Rows.fnExactDeterminantOfSpec.pre6 enc Try.prog Try.f6 Rows.fnExactDeterminantOfRow.domain false) (Rows.fnExactDeterminantOfSpec.post enc Try.prog Try.f6 false true false false) := by
  refine returnsInHanded_of_change_sized (C := Try.checked) own started (by kernel_rfl) Try.func6
    (ChangeSpec.witness6 (enc := enc) (C := Try.checked) false ⟨#[], #[.agg #[.int .i64 0, .int .i64 0, .slice none 0 0]], []⟩ 8 (by kernel_rfl) (by kernel_rfl) (by kernel_rfl) (by kernel_rfl)) ?_
  intro W base args ds gs before hval0 hW hcnd hsz0 _
  have hval : ∀ (j : Nat) t v, Try.f6.params[j]? = some t → args[j]? = some v → Value.okWide Try.prog W .any base t v := hval0
  have hW' := hW
  obtain ⟨p, q, hA0, hV, rfl, hfz, hnd⟩ := hW
  have hA : DataW.TrodAll enc Try.prog W 0 (fun _ => true) true Try.f6.params.toList args.toList ds p := hA0
  rw [Try.params6] at hA hval
  obtain ⟨v0, vs0, d0, ds0, p0, q0, hargs, rfl, rfl, h0, r0⟩ := trodAll_cons hA
  obtain ⟨rfl, rfl, rfl⟩ := trodAll_nil r0
  obtain rfl : args = #[v0] := by cases args; simp_all
  obtain ⟨rfl, rfl⟩ := trodVars_none hV
  have k0 := h0
  have lt0 : ∀ x ∈ p0, x.block < W.heap.size := by obtain ⟨m, hm⟩ := k0; exact DataW.trod_lt m _ _ _ hm
  obtain ⟨cs0, rfl, _⟩ := okWide_struct Try.underlying24 (hval 0 24 v0 rfl rfl)
  obtain ⟨x0, hK0, wf0⟩ := OpensAt.any opensS24 h0
  obtain ⟨A0_2, c0_2, e0, l0_2, g0_2⟩ := k24_open hK0
  obtain rfl : cs0 = #[.int .i64 x0.f0, .int .i64 x0.f1, .slice A0_2 x0.f2.length c0_2] := by cases cs0; simpa [Value.cells] using e0
  clear hA0 hval0 hsz0
  refine (P.laws_FnExactDeterminantOf.walk Pure.FnExactDeterminantOf x0 _ _ W g0_2 l0_2 wf0).mono fun e W' ⟨he, bel⟩ => ?_
  subst he
  exact ⟨_, rfl, _, _, _, [], _, [], hW', trodAll_mk1 (shut_bool Try.underlying4 _), (trodAll_cons_mk (Below.trod laidOut (by kernel_rfl) (of_decide_eq_true (by kernel_rfl)) k0 bel lt0) trodAll_mk0), rfl, bel.frame _, fun h => by cases h⟩
theorem over : Rows.fnExactDeterminantOfRow.holds Try.pinned (OpenSpec.ofChange Rows.fnExactDeterminantOfSpec) :=
  OpenClaim.holds_of_wide 6 Try.f6 rfl rfl rfl rfl rfl rfl rfl ⟨rfl, rfl, rfl, rfl, rfl⟩ rfl rfl rfl rfl rfl (by kernel_rfl) Try.func6 (by kernel_rfl)
    (of_decide_eq_true (by kernel_rfl)) (by unfold Func.isWrapper; first | (rw [if_pos (by decide +kernel)]; kernel_rfl) | (rw [if_neg (by decide +kernel)]; exact ⟨rfl, rfl⟩))
    (fun os started H enc _ => lifted os started H enc)
theorem proved : Rows.FnExactDeterminantOfSaid := over
#print axioms proved
end Go.Proofs.Ytjpbemomocccaaa.fnExactDeterminantOf
namespace Go.Proofs.Ytjpbemomocccaaa
/-- The row, under a short name, for the claim. -/
theorem fnExactDeterminantOf_holds : Rows.FnExactDeterminantOfSaid := fnExactDeterminantOf.proved
end Go.Proofs.Ytjpbemomocccaaa
