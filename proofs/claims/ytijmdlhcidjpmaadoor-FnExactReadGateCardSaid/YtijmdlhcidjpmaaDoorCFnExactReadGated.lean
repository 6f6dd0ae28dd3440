/- For every text the program's ReadGate and the reference's read alike, and the result is memory of its own. This text: the theorem of the row, and part 4 of what it rests on. -/
import Derived.Test.YtijmdlhcidjpmaaDoorCFnExactReadGatec
import Derived.Below
import Derived.Carry
import Derived.ChangeArms
import Derived.ChangeOld
import Derived.Deep.Slices
import Derived.Handed
import Derived.LaidMore
import Derived.LaidSub
import Derived.Lib.ItoaLen
import Derived.OpenShut
import Derived.ProofKit
import Derived.SevenTiedAt
import Derived.Shelf.Abstract
import Derived.Shelf.Vars
import Derived.ShutString
import Derived.SizedLaws
import Derived.Stop.Joined
import Derived.Stop.LaidErr
import Derived.Stop.LaidTwo
import Derived.Test.YtijmdlhcidjpmaaDoorCards
import Derived.Test.YtijmdlhcidjpmaaDoorRows
import Derived.Test.YtijmdlhcidjpmaaDoorTie
import Derived.WalkKit
import Derived.WideShapes
namespace Go.Proofs.YtijmdlhcidjpmaaDoor.P
open Go.RowKit Go.Proofs.YtijmdlhcidjpmaaDoorW.PrintWords Go.Proofs.YtijmdlhcidjpmaaDoorW.PrintLast Go.Proofs.YtijmdlhcidjpmaaDoorW.PrintMore
attribute [local go_sem] max2_int min2_int max_two min_two max_three min_three max_four min_four
set_option linter.unusedVariables false
set_option linter.unusedSimpArgs false
set_option maxHeartbeats 8000000 in
set_option maxRecDepth 100000 in
theorem laws_FnExactReadGate.way0 (k : Nat) (a0 : Int) (a1 : ByteArray)  (w : World) (hG : Glob w)  (t1 : decide (1048576 < (a1.size : Int)) = true) (t2 : decide (1048576 < a1.size) = true) :
  Calls Tryd.prog 6 #[.int .i64 a0, .string a1] w fun e w' => e = .returned (.bool true) ∧ Below w.heap.size w w' := by
 have HB := Aside0.mk (Below.refl w.heap.size w)
 have HG := Aside0.mk hG
 clear hG
 go_enter Tryd.func6, Tryd.ntmps6
 go_wp2
 go_ret
 exact ⟨rfl, by repeat (first | (with_reducible first | exact HB.out | apply below_alloc | apply pw_below_drewN | apply below_drew1) | exact HB.out)⟩
set_option maxHeartbeats 8000000 in
set_option maxRecDepth 100000 in
theorem laws_FnExactReadGate.way1 (k : Nat) (a0 : Int) (a1 : ByteArray) (r3 : Int) (r4 : Int) (r5 : List (S46)) (r6 : Int) (m31 : Int) (ys32 : List (S46)) (w : World) (hG : Glob w)  (t1 : decide (1048576 < (a1.size : Int)) = false) (t2 : decide (1048576 < a1.size) = false) (A7 : spec_ReadGate.f k a0 a1 = some (r3, r4, r5, r6)) (A12 : impl_ReadGate.f k a0 a1 = some (r3, r4, r5, r6)) (A21 : laws_eqGate.f k r3 r4 r5 r3 r4 r5 = some true) (A33 : laws_markGate.f k r3 r4 r5 1 = some (m31, ys32)) (A43 : laws_heldGate.f k r3 r4 ys32 1 = some m31) (t53 : decide (m31 < 0) = false) (A54 : impl_ReadGate.f k a0 a1 = some (r3, r4, r5, r6)) (A67 : laws_eqGate.f k r3 r4 r5 r3 r4 r5 = some true) (A81 : laws_heldGate.f k r3 r4 ys32 1 = some m31) (t95 : decide (m31 < 0) = false) :
  Calls Tryd.prog 6 #[.int .i64 a0, .string a1] w fun e w' => e = .returned (.bool true) ∧ Below w.heap.size w w' := by
 have hu46 := Tryd.underlying46
 have HB := Aside0.mk (Below.refl w.heap.size w)
 have HG := Aside0.mk hG
 clear hG
 replace A7 := Aside0.mk A7
 replace A12 := Aside0.mk A12
 replace A21 := Aside0.mk A21
 replace A33 := Aside0.mk A33
 replace A43 := Aside0.mk A43
 replace A54 := Aside0.mk A54
 replace A67 := Aside0.mk A67
 replace A81 := Aside0.mk A81
 go_enter Tryd.func6, Tryd.ntmps6
 go_wp2_with (first | ((with_reducible refine gate_callee (f := 24) rfl ?_); refine goesL_ (some 19) rfl rfl Tryd.func24 (by kernel_rfl) rfl #[.int .i64 a0, .string a1] rfl (by (try simp only [List.map_toArray, List.map_cons, List.map_nil]); first | done | rfl | (simp only [List.length_drop, List.length_take]; rfl)) ?_; (with_reducible refine (spec_ReadGate.calls k a0 a1 r3 r4 r5 r6 _  A7.out).mono ?_); rintro e w1 ⟨v100_, rfl, ho0_, hb⟩; refine ⟨_, rfl, ?_⟩; have n1_ := Aside0.mk (below_step (by repeat (first | (with_reducible first | exact HB.out | apply below_alloc | apply pw_below_drewN | apply below_drew1) | exact HB.out)) hb); have C8 : Aside0 (w.heap.size ≤ w1.heap.size) := ⟨by have h_ := hb.size; (try simp at h_); omega⟩; have CC := Aside0.mk C8.out; clear HB; have HB := n1_; clear n1_; have HO9 := Aside0.mk (Kd.G_lower (base' := w.heap.size) (Kd.G_mono (Kd.G_bound ho0_) (ok' := fun k_ => w.heap.size ≤ k_ ∧ k_ < w1.heap.size) (fun k_ hk_ => ⟨by have h_ := hk_.2.1; (try simp at h_); omega, hk_.2.2.1⟩)) (by have := CC.out; first | omega | (simp; done) | (simp; omega))); obtain ⟨Az10, cz10, ez10⟩ := Kd.G_slice HO9.out; subst ez10; (try clear hb); (try clear ho0_)) | ((with_reducible refine gate_callee (f := 25) rfl ?_); refine goesL_ (some 25) rfl rfl Tryd.func25 (by kernel_rfl) rfl #[.int .i64 a0, .string a1] rfl (by (try simp only [List.map_toArray, List.map_cons, List.map_nil]); first | done | rfl | (simp only [List.length_drop, List.length_take]; rfl)) ?_; (with_reducible refine (impl_ReadGate.calls k a0 a1 r3 r4 r5 r6 _ ?side1 A12.out).mono ?_); (case side1 => exact Glob.below HG.out (by repeat (first | (with_reducible first | exact HB.out | apply below_alloc | apply pw_below_drewN | apply below_drew1) | exact HB.out))); rintro e w2 ⟨v100_, rfl, ho0_, hb⟩; refine ⟨_, rfl, ?_⟩; have n1_ := Aside0.mk (Kd.G_below (by (with_reducible repeat (first | apply Kd.G_alloc | apply Kd.G_drewN | apply Kd.G_drew)); exact HO9.out) hb); have n2_ := Aside0.mk (blk_below (g := w1.heap.size) (o := .cells #[.int .i64 r3, .int .i64 r4, .slice Az10 r5.length cz10] 46 (0, 0)) (by repeat (first | exact blk_new_at (by simp) | (with_reducible refine blk_drewN ?_ _) | (with_reducible refine blk_drew ?_) | (with_reducible refine blk_alloc ?_ _))) hb); have n3_ := Aside0.mk (below_step (by repeat (first | (with_reducible first | exact HB.out | apply below_alloc | apply pw_below_drewN | apply below_drew1) | exact HB.out)) hb); have C13 : Aside0 (w1.heap.size + 1 ≤ w2.heap.size) := ⟨by have h_ := hb.size; (try simp at h_); omega⟩; have CCn_ := Aside0.mk (And.intro CC.out C13.out); clear CC; have CC := CCn_; clear CCn_; clear HO9; clear HB; have HO9 := n1_; clear n1_; have HX11 := n2_; clear n2_; have HB := n3_; clear n3_; have HO14 := Aside0.mk (Kd.G_lower (base' := w.heap.size) (Kd.G_mono (Kd.G_bound ho0_) (ok' := fun k_ => w1.heap.size + 1 ≤ k_ ∧ k_ < w2.heap.size) (fun k_ hk_ => ⟨by have h_ := hk_.2.1; (try simp at h_); omega, hk_.2.2.1⟩)) (by have := CC.out; first | omega | (simp; done) | (simp; omega))); obtain ⟨Az15, cz15, ez15⟩ := Kd.G_slice HO14.out; subst ez15; (try clear hb); (try clear ho0_); have hl16 : w1.heap.size < w2.heap.size := blk_lt HX11.out; have hx17 : w2.cell? ⟨w1.heap.size, 0, none⟩ = some (.int .i64 r3) := (blk_cell HX11.out 0).trans rfl; have hx18 : w2.cell? ⟨w1.heap.size, 1, none⟩ = some (.int .i64 r4) := (blk_cell HX11.out 1).trans rfl; have hx19 : w2.cell? ⟨w1.heap.size, 2, none⟩ = some (.slice Az10 r5.length cz10) := (blk_cell HX11.out 2).trans rfl) | ((with_reducible refine gate_callee (f := 23) rfl ?_); refine goesL_ (some 30) rfl rfl Tryd.func23 (by kernel_rfl) rfl #[.agg #[.int .i64 r3, .int .i64 r4, .slice Az15 r5.length cz15], .agg #[.int .i64 r3, .int .i64 r4, .slice Az10 r5.length cz10]] rfl (by (try simp only [List.map_toArray, List.map_cons, List.map_nil]); first | done | rfl | (simp only [List.length_drop, List.length_take]; rfl)) ?_; (with_reducible refine (laws_eqGate.calls k r3 r4 _ _ r5 r3 r4 _ _ r5 true _ ?side1 ?side2 ?side3 ?side4 A21.out).mono ?_); (case side1 => exact (Kd.G_reads' (n := r5.length) (A := Az15) (c := cz15) (by (with_reducible repeat (first | apply Kd.G_alloc | apply Kd.G_drewN | apply Kd.G_drew)); exact HO14.out)).2.2); (case side2 => exact (Kd.G_reads' (n := r5.length) (A := Az15) (c := cz15) HO14.out).2.1); (case side3 => exact (Kd.G_reads' (n := r5.length) (A := Az10) (c := cz10) (by (with_reducible repeat (first | apply Kd.G_alloc | apply Kd.G_drewN | apply Kd.G_drew)); exact HO9.out)).2.2); (case side4 => exact (Kd.G_reads' (n := r5.length) (A := Az10) (c := cz10) HO9.out).2.1); rintro e w3 ⟨rfl, hb⟩; refine ⟨_, rfl, ?_⟩; have n1_ := Aside0.mk (Kd.G_below (by (with_reducible repeat (first | apply Kd.G_alloc | apply Kd.G_drewN | apply Kd.G_drew)); exact HO9.out) hb); have n2_ := Aside0.mk (Kd.G_below (by (with_reducible repeat (first | apply Kd.G_alloc | apply Kd.G_drewN | apply Kd.G_drew)); exact HO14.out) hb); have n3_ := Aside0.mk (blk_below (g := w1.heap.size) (o := .cells #[.int .i64 r3, .int .i64 r4, .slice Az10 r5.length cz10] 46 (0, 0)) (by (with_reducible repeat (first | refine blk_drewN ?_ _ | refine blk_drew ?_ | refine blk_alloc ?_ _)); exact HX11.out) hb); have n4_ := Aside0.mk (blk_below (g := w2.heap.size) (o := .cells #[.int .i64 r3, .int .i64 r4, .slice Az15 r5.length cz15] 46 (0, 0)) (by repeat (first | exact blk_new_at (by simp) | (with_reducible refine blk_drewN ?_ _) | (with_reducible refine blk_drew ?_) | (with_reducible refine blk_alloc ?_ _))) hb); have n5_ := Aside0.mk (below_step (by repeat (first | (with_reducible first | exact HB.out | apply below_alloc | apply pw_below_drewN | apply below_drew1) | exact HB.out)) hb); have C22 : Aside0 (w2.heap.size + 1 ≤ w3.heap.size) := ⟨by have h_ := hb.size; (try simp at h_); omega⟩; have CCn_ := Aside0.mk (And.intro CC.out C22.out); clear CC; have CC := CCn_; clear CCn_; clear HO9; clear HO14; clear HX11; clear HB; clear hl16; clear hx17; clear hx18; clear hx19; have HO9 := n1_; clear n1_; have HO14 := n2_; clear n2_; have HX11 := n3_; clear n3_; have HX20 := n4_; clear n4_; have HB := n5_; clear n5_; (try clear hb); have hl23 : w1.heap.size < w3.heap.size := blk_lt HX11.out; have hx24 : w3.cell? ⟨w1.heap.size, 0, none⟩ = some (.int .i64 r3) := (blk_cell HX11.out 0).trans rfl; have hx25 : w3.cell? ⟨w1.heap.size, 1, none⟩ = some (.int .i64 r4) := (blk_cell HX11.out 1).trans rfl; have hx26 : w3.cell? ⟨w1.heap.size, 2, none⟩ = some (.slice Az10 r5.length cz10) := (blk_cell HX11.out 2).trans rfl; have hl27 : w2.heap.size < w3.heap.size := blk_lt HX20.out; have hx28 : w3.cell? ⟨w2.heap.size, 0, none⟩ = some (.int .i64 r3) := (blk_cell HX20.out 0).trans rfl; have hx29 : w3.cell? ⟨w2.heap.size, 1, none⟩ = some (.int .i64 r4) := (blk_cell HX20.out 1).trans rfl; have hx30 : w3.cell? ⟨w2.heap.size, 2, none⟩ = some (.slice Az15 r5.length cz15) := (blk_cell HX20.out 2).trans rfl) | ((with_reducible refine gate_callee (f := 26) rfl ?_); refine goesL_ (some 39) rfl rfl Tryd.func26 (by kernel_rfl) rfl #[.agg #[.int .i64 r3, .int .i64 r4, .slice Az15 r5.length cz15], .int .i64 1] rfl (by (try simp only [List.map_toArray, List.map_cons, List.map_nil]); first | done | rfl | (simp only [List.length_drop, List.length_take]; rfl)) ?_; (with_reducible refine (laws_markGate.callsM k r3 r4 (fun k_ => w1.heap.size + 1 ≤ k_ ∧ k_ < w2.heap.size) (.slice Az15 r5.length cz15) r5 1 m31 ys32 w _ ?side1 ?side2 A33.out).mono ?_); (case side1 => repeat (first | (with_reducible first | exact HB.out | apply below_alloc | apply pw_below_drewN | apply below_drew1) | exact HB.out)); (case side2 => exact (by (with_reducible repeat (first | apply Kd.G_alloc | apply Kd.G_drewN | apply Kd.G_drew)); exact HO14.out)); rintro e w4 ⟨rfl, hm0_, hbk, hk⟩; refine ⟨_, rfl, ?_⟩; have n1_ := Aside0.mk (Kd.G_kept (by (with_reducible repeat (first | apply Kd.G_alloc | apply Kd.G_drewN | apply Kd.G_drew)); exact HO9.out) hk (fun k_ hk_ hs_ => by have := CC.out; have h1_ := hk_; have h2_ := hs_; omega)); have n2_ := Aside0.mk (blk_kept (g := w1.heap.size) (o := .cells #[.int .i64 r3, .int .i64 r4, .slice Az10 r5.length cz10] 46 (0, 0)) (by (with_reducible repeat (first | refine blk_drewN ?_ _ | refine blk_drew ?_ | refine blk_alloc ?_ _)); exact HX11.out) hk (fun hs_ => by have := CC.out; have h2_ := hs_; omega)); have n3_ := Aside0.mk (blk_kept (g := w2.heap.size) (o := .cells #[.int .i64 r3, .int .i64 r4, .slice Az15 r5.length cz15] 46 (0, 0)) (by (with_reducible repeat (first | refine blk_drewN ?_ _ | refine blk_drew ?_ | refine blk_alloc ?_ _)); exact HX20.out) hk (fun hs_ => by have := CC.out; have h2_ := hs_; omega)); have n4_ := Aside0.mk (hbk); have C34 : Aside0 (w3.heap.size ≤ w4.heap.size) := ⟨by have h_ := hk.1; (try simp at h_); omega⟩; have CCn_ := Aside0.mk (And.intro CC.out C34.out); clear CC; have CC := CCn_; clear CCn_; clear HO9; clear HX11; clear HX20; clear HB; clear hl23; clear hx24; clear hx25; clear hx26; clear hl27; clear hx28; clear hx29; clear hx30; have HO9 := n1_; clear n1_; have HX11 := n2_; clear n2_; have HX20 := n3_; clear n3_; have HB := n4_; clear n4_; clear HO14; have HO14 := Aside0.mk hm0_; (try clear hk); (try clear hbk); (try clear hm0_); have hl35 : w1.heap.size < w4.heap.size := blk_lt HX11.out; have hx36 : w4.cell? ⟨w1.heap.size, 0, none⟩ = some (.int .i64 r3) := (blk_cell HX11.out 0).trans rfl; have hx37 : w4.cell? ⟨w1.heap.size, 1, none⟩ = some (.int .i64 r4) := (blk_cell HX11.out 1).trans rfl; have hx38 : w4.cell? ⟨w1.heap.size, 2, none⟩ = some (.slice Az10 r5.length cz10) := (blk_cell HX11.out 2).trans rfl; have hl39 : w2.heap.size < w4.heap.size := blk_lt HX20.out; have hx40 : w4.cell? ⟨w2.heap.size, 0, none⟩ = some (.int .i64 r3) := (blk_cell HX20.out 0).trans rfl; have hx41 : w4.cell? ⟨w2.heap.size, 1, none⟩ = some (.int .i64 r4) := (blk_cell HX20.out 1).trans rfl; have hx42 : w4.cell? ⟨w2.heap.size, 2, none⟩ = some (.slice Az15 r5.length cz15) := (blk_cell HX20.out 2).trans rfl) | ((with_reducible refine gate_callee (f := 27) rfl ?_); refine goesL_ (some 42) rfl rfl Tryd.func27 (by kernel_rfl) rfl #[.agg #[.int .i64 r3, .int .i64 r4, .slice Az15 r5.length cz15], .int .i64 1] rfl (by (try simp only [List.map_toArray, List.map_cons, List.map_nil]); first | done | rfl | (simp only [List.length_drop, List.length_take]; rfl)) ?_; (with_reducible refine (calls_as ?eq_ (laws_heldGate.calls k r3 r4 Az15 cz15 ys32 1 m31 _ ?side1 ?side2 A43.out)).mono ?_); (case eq_ => rw [show ys32.length = r5.length from (Kd.G_reads' HO14.out).1.symm]); (case side1 => exact (Kd.G_reads' (n := r5.length) (A := Az15) (c := cz15) (by (with_reducible repeat (first | apply Kd.G_alloc | apply Kd.G_drewN | apply Kd.G_drew)); exact HO14.out)).2.2); (case side2 => exact Nat.le_trans (Nat.le_of_eq (Kd.G_reads' HO14.out).1.symm) (Kd.G_reads' HO14.out).2.1); rintro e w5 ⟨rfl, hb⟩; refine ⟨_, rfl, ?_⟩; have n1_ := Aside0.mk (Kd.G_below (by (with_reducible repeat (first | apply Kd.G_alloc | apply Kd.G_drewN | apply Kd.G_drew)); exact HO9.out) hb); have n2_ := Aside0.mk (Kd.G_below (by (with_reducible repeat (first | apply Kd.G_alloc | apply Kd.G_drewN | apply Kd.G_drew)); exact HO14.out) hb); have n3_ := Aside0.mk (blk_below (g := w1.heap.size) (o := .cells #[.int .i64 r3, .int .i64 r4, .slice Az10 r5.length cz10] 46 (0, 0)) (by (with_reducible repeat (first | refine blk_drewN ?_ _ | refine blk_drew ?_ | refine blk_alloc ?_ _)); exact HX11.out) hb); have n4_ := Aside0.mk (blk_below (g := w2.heap.size) (o := .cells #[.int .i64 r3, .int .i64 r4, .slice Az15 r5.length cz15] 46 (0, 0)) (by (with_reducible repeat (first | refine blk_drewN ?_ _ | refine blk_drew ?_ | refine blk_alloc ?_ _)); exact HX20.out) hb); have n5_ := Aside0.mk (below_step (by repeat (first | (with_reducible first | exact HB.out | apply below_alloc | apply pw_below_drewN | apply below_drew1) | exact HB.out)) hb); have C44 : Aside0 (w4.heap.size ≤ w5.heap.size) := ⟨by have h_ := hb.size; (try simp at h_); omega⟩; have CCn_ := Aside0.mk (And.intro CC.out C44.out); clear CC; have CC := CCn_; clear CCn_; clear HO9; clear HO14; clear HX11; clear HX20; clear HB; clear hl35; clear hx36; clear hx37; clear hx38; clear hl39; clear hx40; clear hx41; clear hx42; have HO9 := n1_; clear n1_; have HO14 := n2_; clear n2_; have HX11 := n3_; clear n3_; have HX20 := n4_; clear n4_; have HB := n5_; clear n5_; (try clear hb); have hl45 : w1.heap.size < w5.heap.size := blk_lt HX11.out; have hx46 : w5.cell? ⟨w1.heap.size, 0, none⟩ = some (.int .i64 r3) := (blk_cell HX11.out 0).trans rfl; have hx47 : w5.cell? ⟨w1.heap.size, 1, none⟩ = some (.int .i64 r4) := (blk_cell HX11.out 1).trans rfl; have hx48 : w5.cell? ⟨w1.heap.size, 2, none⟩ = some (.slice Az10 r5.length cz10) := (blk_cell HX11.out 2).trans rfl; have hl49 : w2.heap.size < w5.heap.size := blk_lt HX20.out; have hx50 : w5.cell? ⟨w2.heap.size, 0, none⟩ = some (.int .i64 r3) := (blk_cell HX20.out 0).trans rfl; have hx51 : w5.cell? ⟨w2.heap.size, 1, none⟩ = some (.int .i64 r4) := (blk_cell HX20.out 1).trans rfl; have hx52 : w5.cell? ⟨w2.heap.size, 2, none⟩ = some (.slice Az15 r5.length cz15) := (blk_cell HX20.out 2).trans rfl) | ((with_reducible refine gate_callee (f := 25) rfl ?_); refine goesL_ (some 51) rfl rfl Tryd.func25 (by kernel_rfl) rfl #[.int .i64 a0, .string a1] rfl (by (try simp only [List.map_toArray, List.map_cons, List.map_nil]); first | done | rfl | (simp only [List.length_drop, List.length_take]; rfl)) ?_; (with_reducible refine (impl_ReadGate.calls k a0 a1 r3 r4 r5 r6 _ ?side1 A54.out).mono ?_); (case side1 => exact Glob.below HG.out (by repeat (first | (with_reducible first | exact HB.out | apply below_alloc | apply pw_below_drewN | apply below_drew1) | exact HB.out))); rintro e w6 ⟨v100_, rfl, ho0_, hb⟩; refine ⟨_, rfl, ?_⟩; have n1_ := Aside0.mk (Kd.G_below (by (with_reducible repeat (first | apply Kd.G_alloc | apply Kd.G_drewN | apply Kd.G_drew)); exact HO9.out) hb); have n2_ := Aside0.mk (Kd.G_below (by (with_reducible repeat (first | apply Kd.G_alloc | apply Kd.G_drewN | apply Kd.G_drew)); exact HO14.out) hb); have n3_ := Aside0.mk (blk_below (g := w1.heap.size) (o := .cells #[.int .i64 r3, .int .i64 r4, .slice Az10 r5.length cz10] 46 (0, 0)) (by (with_reducible repeat (first | refine blk_drewN ?_ _ | refine blk_drew ?_ | refine blk_alloc ?_ _)); exact HX11.out) hb); have n4_ := Aside0.mk (blk_below (g := w2.heap.size) (o := .cells #[.int .i64 r3, .int .i64 r4, .slice Az15 r5.length cz15] 46 (0, 0)) (by (with_reducible repeat (first | refine blk_drewN ?_ _ | refine blk_drew ?_ | refine blk_alloc ?_ _)); exact HX20.out) hb); have n5_ := Aside0.mk (below_step (by repeat (first | (with_reducible first | exact HB.out | apply below_alloc | apply pw_below_drewN | apply below_drew1) | exact HB.out)) hb); have C55 : Aside0 (w5.heap.size ≤ w6.heap.size) := ⟨by have h_ := hb.size; (try simp at h_); omega⟩; have CCn_ := Aside0.mk (And.intro CC.out C55.out); clear CC; have CC := CCn_; clear CCn_; clear HO9; clear HO14; clear HX11; clear HX20; clear HB; clear hl45; clear hx46; clear hx47; clear hx48; clear hl49; clear hx50; clear hx51; clear hx52; have HO9 := n1_; clear n1_; have HO14 := n2_; clear n2_; have HX11 := n3_; clear n3_; have HX20 := n4_; clear n4_; have HB := n5_; clear n5_; have HO56 := Aside0.mk (Kd.G_lower (base' := w.heap.size) (Kd.G_mono (Kd.G_bound ho0_) (ok' := fun k_ => w5.heap.size ≤ k_ ∧ k_ < w6.heap.size) (fun k_ hk_ => ⟨by have h_ := hk_.2.1; (try simp at h_); omega, hk_.2.2.1⟩)) (by have := CC.out; first | omega | (simp; done) | (simp; omega))); obtain ⟨Az57, cz57, ez57⟩ := Kd.G_slice HO56.out; subst ez57; (try clear hb); (try clear ho0_); have hl58 : w1.heap.size < w6.heap.size := blk_lt HX11.out; have hx59 : w6.cell? ⟨w1.heap.size, 0, none⟩ = some (.int .i64 r3) := (blk_cell HX11.out 0).trans rfl; have hx60 : w6.cell? ⟨w1.heap.size, 1, none⟩ = some (.int .i64 r4) := (blk_cell HX11.out 1).trans rfl; have hx61 : w6.cell? ⟨w1.heap.size, 2, none⟩ = some (.slice Az10 r5.length cz10) := (blk_cell HX11.out 2).trans rfl; have hl62 : w2.heap.size < w6.heap.size := blk_lt HX20.out; have hx63 : w6.cell? ⟨w2.heap.size, 0, none⟩ = some (.int .i64 r3) := (blk_cell HX20.out 0).trans rfl; have hx64 : w6.cell? ⟨w2.heap.size, 1, none⟩ = some (.int .i64 r4) := (blk_cell HX20.out 1).trans rfl; have hx65 : w6.cell? ⟨w2.heap.size, 2, none⟩ = some (.slice Az15 r5.length cz15) := (blk_cell HX20.out 2).trans rfl) | ((with_reducible refine gate_callee (f := 23) rfl ?_); refine goesL_ (some 56) rfl rfl Tryd.func23 (by kernel_rfl) rfl #[.agg #[.int .i64 r3, .int .i64 r4, .slice Az57 r5.length cz57], .agg #[.int .i64 r3, .int .i64 r4, .slice Az10 r5.length cz10]] rfl (by (try simp only [List.map_toArray, List.map_cons, List.map_nil]); first | done | rfl | (simp only [List.length_drop, List.length_take]; rfl)) ?_; (with_reducible refine (laws_eqGate.calls k r3 r4 _ _ r5 r3 r4 _ _ r5 true _ ?side1 ?side2 ?side3 ?side4 A67.out).mono ?_); (case side1 => exact (Kd.G_reads' (n := r5.length) (A := Az57) (c := cz57) (by (with_reducible repeat (first | apply Kd.G_alloc | apply Kd.G_drewN | apply Kd.G_drew)); exact HO56.out)).2.2); (case side2 => exact (Kd.G_reads' (n := r5.length) (A := Az57) (c := cz57) HO56.out).2.1); (case side3 => exact (Kd.G_reads' (n := r5.length) (A := Az10) (c := cz10) (by (with_reducible repeat (first | apply Kd.G_alloc | apply Kd.G_drewN | apply Kd.G_drew)); exact HO9.out)).2.2); (case side4 => exact (Kd.G_reads' (n := r5.length) (A := Az10) (c := cz10) HO9.out).2.1); rintro e w7 ⟨rfl, hb⟩; refine ⟨_, rfl, ?_⟩; have n1_ := Aside0.mk (Kd.G_below (by (with_reducible repeat (first | apply Kd.G_alloc | apply Kd.G_drewN | apply Kd.G_drew)); exact HO9.out) hb); have n2_ := Aside0.mk (Kd.G_below (by (with_reducible repeat (first | apply Kd.G_alloc | apply Kd.G_drewN | apply Kd.G_drew)); exact HO14.out) hb); have n3_ := Aside0.mk (Kd.G_below (by (with_reducible repeat (first | apply Kd.G_alloc | apply Kd.G_drewN | apply Kd.G_drew)); exact HO56.out) hb); have n4_ := Aside0.mk (blk_below (g := w1.heap.size) (o := .cells #[.int .i64 r3, .int .i64 r4, .slice Az10 r5.length cz10] 46 (0, 0)) (by (with_reducible repeat (first | refine blk_drewN ?_ _ | refine blk_drew ?_ | refine blk_alloc ?_ _)); exact HX11.out) hb); have n5_ := Aside0.mk (blk_below (g := w2.heap.size) (o := .cells #[.int .i64 r3, .int .i64 r4, .slice Az15 r5.length cz15] 46 (0, 0)) (by (with_reducible repeat (first | refine blk_drewN ?_ _ | refine blk_drew ?_ | refine blk_alloc ?_ _)); exact HX20.out) hb); have n6_ := Aside0.mk (blk_below (g := w6.heap.size) (o := .cells #[.int .i64 r3, .int .i64 r4, .slice Az57 r5.length cz57] 46 (0, 0)) (by repeat (first | exact blk_new_at (by simp) | (with_reducible refine blk_drewN ?_ _) | (with_reducible refine blk_drew ?_) | (with_reducible refine blk_alloc ?_ _))) hb); have n7_ := Aside0.mk (below_step (by repeat (first | (with_reducible first | exact HB.out | apply below_alloc | apply pw_below_drewN | apply below_drew1) | exact HB.out)) hb); have C68 : Aside0 (w6.heap.size + 1 ≤ w7.heap.size) := ⟨by have h_ := hb.size; (try simp at h_); omega⟩; have CCn_ := Aside0.mk (And.intro CC.out C68.out); clear CC; have CC := CCn_; clear CCn_; clear HO9; clear HO14; clear HO56; clear HX11; clear HX20; clear HB; clear hl58; clear hx59; clear hx60; clear hx61; clear hl62; clear hx63; clear hx64; clear hx65; have HO9 := n1_; clear n1_; have HO14 := n2_; clear n2_; have HO56 := n3_; clear n3_; have HX11 := n4_; clear n4_; have HX20 := n5_; clear n5_; have HX66 := n6_; clear n6_; have HB := n7_; clear n7_; (try clear hb); have hl69 : w1.heap.size < w7.heap.size := blk_lt HX11.out; have hx70 : w7.cell? ⟨w1.heap.size, 0, none⟩ = some (.int .i64 r3) := (blk_cell HX11.out 0).trans rfl; have hx71 : w7.cell? ⟨w1.heap.size, 1, none⟩ = some (.int .i64 r4) := (blk_cell HX11.out 1).trans rfl; have hx72 : w7.cell? ⟨w1.heap.size, 2, none⟩ = some (.slice Az10 r5.length cz10) := (blk_cell HX11.out 2).trans rfl; have hl73 : w2.heap.size < w7.heap.size := blk_lt HX20.out; have hx74 : w7.cell? ⟨w2.heap.size, 0, none⟩ = some (.int .i64 r3) := (blk_cell HX20.out 0).trans rfl; have hx75 : w7.cell? ⟨w2.heap.size, 1, none⟩ = some (.int .i64 r4) := (blk_cell HX20.out 1).trans rfl; have hx76 : w7.cell? ⟨w2.heap.size, 2, none⟩ = some (.slice Az15 r5.length cz15) := (blk_cell HX20.out 2).trans rfl; have hl77 : w6.heap.size < w7.heap.size := blk_lt HX66.out; have hx78 : w7.cell? ⟨w6.heap.size, 0, none⟩ = some (.int .i64 r3) := (blk_cell HX66.out 0).trans rfl; have hx79 : w7.cell? ⟨w6.heap.size, 1, none⟩ = some (.int .i64 r4) := (blk_cell HX66.out 1).trans rfl; have hx80 : w7.cell? ⟨w6.heap.size, 2, none⟩ = some (.slice Az57 r5.length cz57) := (blk_cell HX66.out 2).trans rfl) | ((with_reducible refine gate_callee (f := 27) rfl ?_); refine goesL_ (some 65) rfl rfl Tryd.func27 (by kernel_rfl) rfl #[.agg #[.int .i64 r3, .int .i64 r4, .slice Az15 r5.length cz15], .int .i64 1] rfl (by (try simp only [List.map_toArray, List.map_cons, List.map_nil]); first | done | rfl | (simp only [List.length_drop, List.length_take]; rfl)) ?_; (with_reducible refine (calls_as ?eq_ (laws_heldGate.calls k r3 r4 Az15 cz15 ys32 1 m31 _ ?side1 ?side2 A81.out)).mono ?_); (case eq_ => rw [show ys32.length = r5.length from (Kd.G_reads' HO14.out).1.symm]); (case side1 => exact (Kd.G_reads' (n := r5.length) (A := Az15) (c := cz15) (by (with_reducible repeat (first | apply Kd.G_alloc | apply Kd.G_drewN | apply Kd.G_drew)); exact HO14.out)).2.2); (case side2 => exact Nat.le_trans (Nat.le_of_eq (Kd.G_reads' HO14.out).1.symm) (Kd.G_reads' HO14.out).2.1); rintro e w8 ⟨rfl, hb⟩; refine ⟨_, rfl, ?_⟩; have n1_ := Aside0.mk (Kd.G_below (by (with_reducible repeat (first | apply Kd.G_alloc | apply Kd.G_drewN | apply Kd.G_drew)); exact HO9.out) hb); have n2_ := Aside0.mk (Kd.G_below (by (with_reducible repeat (first | apply Kd.G_alloc | apply Kd.G_drewN | apply Kd.G_drew)); exact HO14.out) hb); have n3_ := Aside0.mk (Kd.G_below (by (with_reducible repeat (first | apply Kd.G_alloc | apply Kd.G_drewN | apply Kd.G_drew)); exact HO56.out) hb); have n4_ := Aside0.mk (blk_below (g := w1.heap.size) (o := .cells #[.int .i64 r3, .int .i64 r4, .slice Az10 r5.length cz10] 46 (0, 0)) (by (with_reducible repeat (first | refine blk_drewN ?_ _ | refine blk_drew ?_ | refine blk_alloc ?_ _)); exact HX11.out) hb); have n5_ := Aside0.mk (blk_below (g := w2.heap.size) (o := .cells #[.int .i64 r3, .int .i64 r4, .slice Az15 r5.length cz15] 46 (0, 0)) (by (with_reducible repeat (first | refine blk_drewN ?_ _ | refine blk_drew ?_ | refine blk_alloc ?_ _)); exact HX20.out) hb); have n6_ := Aside0.mk (blk_below (g := w6.heap.size) (o := .cells #[.int .i64 r3, .int .i64 r4, .slice Az57 r5.length cz57] 46 (0, 0)) (by (with_reducible repeat (first | refine blk_drewN ?_ _ | refine blk_drew ?_ | refine blk_alloc ?_ _)); exact HX66.out) hb); have n7_ := Aside0.mk (below_step (by repeat (first | (with_reducible first | exact HB.out | apply below_alloc | apply pw_below_drewN | apply below_drew1) | exact HB.out)) hb); have C82 : Aside0 (w7.heap.size ≤ w8.heap.size) := ⟨by have h_ := hb.size; (try simp at h_); omega⟩; have CCn_ := Aside0.mk (And.intro CC.out C82.out); clear CC; have CC := CCn_; clear CCn_; clear HO9; clear HO14; clear HO56; clear HX11; clear HX20; clear HX66; clear HB; clear hl69; clear hx70; clear hx71; clear hx72; clear hl73; clear hx74; clear hx75; clear hx76; clear hl77; clear hx78; clear hx79; clear hx80; have HO9 := n1_; clear n1_; have HO14 := n2_; clear n2_; have HO56 := n3_; clear n3_; have HX11 := n4_; clear n4_; have HX20 := n5_; clear n5_; have HX66 := n6_; clear n6_; have HB := n7_; clear n7_; (try clear hb); have hl83 : w1.heap.size < w8.heap.size := blk_lt HX11.out; have hx84 : w8.cell? ⟨w1.heap.size, 0, none⟩ = some (.int .i64 r3) := (blk_cell HX11.out 0).trans rfl; have hx85 : w8.cell? ⟨w1.heap.size, 1, none⟩ = some (.int .i64 r4) := (blk_cell HX11.out 1).trans rfl; have hx86 : w8.cell? ⟨w1.heap.size, 2, none⟩ = some (.slice Az10 r5.length cz10) := (blk_cell HX11.out 2).trans rfl; have hl87 : w2.heap.size < w8.heap.size := blk_lt HX20.out; have hx88 : w8.cell? ⟨w2.heap.size, 0, none⟩ = some (.int .i64 r3) := (blk_cell HX20.out 0).trans rfl; have hx89 : w8.cell? ⟨w2.heap.size, 1, none⟩ = some (.int .i64 r4) := (blk_cell HX20.out 1).trans rfl; have hx90 : w8.cell? ⟨w2.heap.size, 2, none⟩ = some (.slice Az15 r5.length cz15) := (blk_cell HX20.out 2).trans rfl; have hl91 : w6.heap.size < w8.heap.size := blk_lt HX66.out; have hx92 : w8.cell? ⟨w6.heap.size, 0, none⟩ = some (.int .i64 r3) := (blk_cell HX66.out 0).trans rfl; have hx93 : w8.cell? ⟨w6.heap.size, 1, none⟩ = some (.int .i64 r4) := (blk_cell HX66.out 1).trans rfl; have hx94 : w8.cell? ⟨w6.heap.size, 2, none⟩ = some (.slice Az57 r5.length cz57) := (blk_cell HX66.out 2).trans rfl))
 go_ret
 exact ⟨rfl, by repeat (first | (with_reducible first | exact HB.out | apply below_alloc | apply pw_below_drewN | apply below_drew1) | exact HB.out)⟩
end Go.Proofs.YtijmdlhcidjpmaaDoor.P

namespace Go.Proofs.YtijmdlhcidjpmaaDoor.P
open Go.RowKit Go.Proofs.YtijmdlhcidjpmaaDoorW.PrintWords Go.Proofs.YtijmdlhcidjpmaaDoorW.PrintLast Go.Proofs.YtijmdlhcidjpmaaDoorW.PrintMore
attribute [local go_sem] max2_int min2_int max_two min_two max_three min_three max_four min_four
set_option linter.unusedVariables false
set_option linter.unusedSimpArgs false
def laws_FnExactReadGate.Way0 (a0 : Int) (a1 : ByteArray) : Prop := ∃ k : Nat, (decide (1048576 < (a1.size : Int)) = true) ∧ (decide (1048576 < a1.size) = true)
def laws_FnExactReadGate.Way1 (a0 : Int) (a1 : ByteArray) : Prop := ∃ k : Nat, ∃ (r3 : Int) (r4 : Int) (r5 : List (S46)) (r6 : Int) (m31 : Int) (ys32 : List (S46)), (decide (1048576 < (a1.size : Int)) = false) ∧ (decide (1048576 < a1.size) = false) ∧ (spec_ReadGate.f k a0 a1 = some (r3, r4, r5, r6)) ∧ (impl_ReadGate.f k a0 a1 = some (r3, r4, r5, r6)) ∧ (laws_eqGate.f k r3 r4 r5 r3 r4 r5 = some true) ∧ (laws_markGate.f k r3 r4 r5 1 = some (m31, ys32)) ∧ (laws_heldGate.f k r3 r4 ys32 1 = some m31) ∧ (decide (m31 < 0) = false) ∧ (impl_ReadGate.f k a0 a1 = some (r3, r4, r5, r6)) ∧ (laws_eqGate.f k r3 r4 r5 r3 r4 r5 = some true) ∧ (laws_heldGate.f k r3 r4 ys32 1 = some m31) ∧ (decide (m31 < 0) = false)
def laws_FnExactReadGate.Pure : Prop := ∀ (a0 : Int) (a1 : ByteArray), ((Lit.int .i64 a0).wf = true) → (a1.size ≤ maxLen) → laws_FnExactReadGate.Way0 a0 a1 ∨ laws_FnExactReadGate.Way1 a0 a1
theorem laws_FnExactReadGate.walk (P : laws_FnExactReadGate.Pure) (a0 : Int) (a1 : ByteArray)  (w : World)  (wf0 : ((Lit.int .i64 a0).wf = true)) (wf1 : (a1.size ≤ maxLen)) (hG : Glob w) :
  Calls Tryd.prog 6 #[.int .i64 a0, .string a1] w fun e w' => e = .returned (.bool true) ∧ Below w.heap.size w w' := by
 rcases P a0 a1 wf0 wf1 with h | h
 ·obtain ⟨k, t1, t2⟩ := h
  exact laws_FnExactReadGate.way0 k a0 a1  w hG  t1 t2
 ·obtain ⟨k, r3, r4, r5, r6, m31, ys32, t1, t2, A7, A12, A21, A33, A43, t53, A54, A67, A81, t95⟩ := h
  exact laws_FnExactReadGate.way1 k a0 a1 r3 r4 r5 r6 m31 ys32 w hG  t1 t2 A7 A12 A21 A33 A43 t53 A54 A67 A81 t95
end Go.Proofs.YtijmdlhcidjpmaaDoor.P

namespace Go.Proofs.YtijmdlhcidjpmaaDoor.P
open Go.RowKit Go.Proofs.YtijmdlhcidjpmaaDoorW.PrintWords Go.Proofs.YtijmdlhcidjpmaaDoorW.PrintLast Go.Proofs.YtijmdlhcidjpmaaDoorW.PrintMore
attribute [local go_sem] max2_int min2_int max_two min_two max_three min_three max_four min_four
set_option linter.unusedVariables false
set_option linter.unusedSimpArgs false
section
variable {H : Type} {enc : TypeId × Value → H} {P : Program} {w : World} {base : Nat} {held : Bool} {α : Type}
end
end Go.Proofs.YtijmdlhcidjpmaaDoor.P

namespace Go.Proofs.YtijmdlhcidjpmaaDoor.P
open Go.RowKit Go.Proofs.YtijmdlhcidjpmaaDoorW.PrintWords Go.Proofs.YtijmdlhcidjpmaaDoorW.PrintLast Go.Proofs.YtijmdlhcidjpmaaDoorW.PrintMore
attribute [local go_sem] max2_int min2_int max_two min_two max_three min_three max_four min_four
set_option linter.unusedVariables false
set_option linter.unusedSimpArgs false
end Go.Proofs.YtijmdlhcidjpmaaDoor.P

namespace Go.Proofs.YtijmdlhcidjpmaaDoor.P
open Go.RowKit Go.Proofs.YtijmdlhcidjpmaaDoorW.PrintWords Go.Proofs.YtijmdlhcidjpmaaDoorW.PrintLast Go.Proofs.YtijmdlhcidjpmaaDoorW.PrintMore
attribute [local go_sem] max2_int min2_int max_two min_two max_three min_three max_four min_four
set_option linter.unusedVariables false
set_option linter.unusedSimpArgs false
end Go.Proofs.YtijmdlhcidjpmaaDoor.P

namespace Go.Proofs.YtijmdlhcidjpmaaDoor.P
open Go.RowKit Go.Proofs.YtijmdlhcidjpmaaDoorW.PrintWords Go.Proofs.YtijmdlhcidjpmaaDoorW.PrintLast Go.Proofs.YtijmdlhcidjpmaaDoorW.PrintMore
attribute [local go_sem] max2_int min2_int max_two min_two max_three min_three max_four min_four
set_option linter.unusedVariables false
set_option linter.unusedSimpArgs false
end Go.Proofs.YtijmdlhcidjpmaaDoor.P

namespace Go.Proofs.YtijmdlhcidjpmaaDoor.P
open Go.RowKit Go.Proofs.YtijmdlhcidjpmaaDoorW.PrintWords Go.Proofs.YtijmdlhcidjpmaaDoorW.PrintLast Go.Proofs.YtijmdlhcidjpmaaDoorW.PrintMore
attribute [local go_sem] max2_int min2_int max_two min_two max_three min_three max_four min_four
set_option linter.unusedVariables false
set_option linter.unusedSimpArgs false
mutual
def mT : S46 → Nat
 | ⟨_, _, l⟩ => mL l
def mL : List S46 → Nat
 | [] => 0
 | x :: l => 1 + mT x + mL l
end
theorem mT_kids (x : S46) : mT x = mL x.f2 := by cases x; simp [mT]
theorem mL_mem {l : List S46} {x : S46} (h : x ∈ l) : mT x < mL l := by
 induction l with
 | nil => simp at h
 | cons y l ih =>
  simp only [mL]
  rcases List.mem_cons.mp h with rfl | h
  ·omega
  ·have := ih h; omega
theorem mL_len : ∀ l : List S46, l.length ≤ mL l
 | [] => by simp [mL]
 | x :: l => by have := mL_len l; simp only [mL, List.length_cons]; omega
theorem rdT_impl (xs : List S46) (i : Nat) (h : i < xs.length) : rd_T46 xs (i : Int) = xs[i] := by simp [rd_T46, h]
inductive wfG : S41 → Prop
 | mk (x : S41) : x.f2.length ≤ 9223372036854775807 → (∀ y ∈ x.f2, wfG y) → wfG x
theorem eqGateS_same : ∀ (n : Nat) (l : List S46), mL l ≤ n → n ≤ 1048576 → Ev (fun k => laws_eqGateS.f k l l) true := by
 intro n
 induction n with
 | zero =>
  intro l hn hm
  have hs := mL_len l
  obtain rfl : l = [] := List.eq_nil_of_length_eq_zero (by omega)
  exact Ev.step (f := fun k => laws_eqGateS.l0 k [] [] 0) (fun k => by simp [laws_eqGateS.f]) (Ev.step (f := fun _ => some true) (fun k => by simp [laws_eqGateS.l0]) (Ev.now _))
 | succ n ih =>
  intro l hn hm
  have hs := mL_len l
  have key : ∀ d i : Nat, i + d = l.length → Ev (fun k => laws_eqGateS.l0 k l l (i : Int)) true := by
   intro d
   induction d with
   | zero =>
    intro i hi
    refine Ev.step (f := fun _ => some true) (fun k => ?_) (Ev.now _)
    simp only [laws_eqGateS.l0]
    rw [if_neg (by omega)]
   | succ d ihd =>
    intro i hi
    have hlt : i < l.length := by omega
    have hx := mL_mem (List.getElem_mem hlt)
    have hk := mT_kids l[i]
    have e1 : Ev (fun k => laws_eqGate.f k l[i].f0 l[i].f1 l[i].f2 l[i].f0 l[i].f1 l[i].f2) true :=
     Ev.step (f := fun k => (laws_eqGateS.f k l[i].f2 l[i].f2).bind fun t => if t = true then some true else some false) (fun k => by simp only [laws_eqGate.f, if_true]) (Ev.bind (ih l[i].f2 (by omega) (by omega)) (by simp only [if_true]; exact Ev.now _))
    refine Ev.step (f := fun k => (laws_eqGate.f k l[i].f0 l[i].f1 l[i].f2 l[i].f0 l[i].f1 l[i].f2).bind fun t => if t = true then laws_eqGateS.l0 k l l ((i + 1 : Nat) : Int) else some false) (fun k => ?_) (Ev.bind e1 ?_)
    ·simp only [laws_eqGateS.l0]
     rw [if_pos (by omega), if_pos (by omega), if_pos (by omega), rdT_impl l i hlt, wr (by omega) (by omega)]
     rfl
    ·exact ihd (i + 1) (by omega)
  exact Ev.step (f := fun k => laws_eqGateS.l0 k l l 0) (fun k => by simp only [laws_eqGateS.f, if_true]) (key l.length 0 (by omega))
theorem eqGate_same (a b : Int) (l : List S46) (h : mL l ≤ 1048576) : Ev (fun k => laws_eqGate.f k a b l a b l) true :=
 Ev.step (f := fun k => (laws_eqGateS.f k l l).bind fun t => if t = true then some true else some false) (fun k => by simp only [laws_eqGate.f, if_true]) (Ev.bind (eqGateS_same _ l (Nat.le_refl _) h) (by simp only [if_true]; exact Ev.now _))
end Go.Proofs.YtijmdlhcidjpmaaDoor.P

namespace Go.Proofs.YtijmdlhcidjpmaaDoor.P
open Go.RowKit Go.Proofs.YtijmdlhcidjpmaaDoorW.PrintWords Go.Proofs.YtijmdlhcidjpmaaDoorW.PrintLast Go.Proofs.YtijmdlhcidjpmaaDoorW.PrintMore
attribute [local go_sem] max2_int min2_int max_two min_two max_three min_three max_four min_four
set_option linter.unusedVariables false
set_option linter.unusedSimpArgs false
end Go.Proofs.YtijmdlhcidjpmaaDoor.P

namespace Go.Proofs.YtijmdlhcidjpmaaDoor.P
open Go.RowKit Go.Proofs.YtijmdlhcidjpmaaDoorW.PrintWords Go.Proofs.YtijmdlhcidjpmaaDoorW.PrintLast Go.Proofs.YtijmdlhcidjpmaaDoorW.PrintMore
attribute [local go_sem] max2_int min2_int max_two min_two max_three min_three max_four min_four
set_option linter.unusedVariables false
set_option linter.unusedSimpArgs false
end Go.Proofs.YtijmdlhcidjpmaaDoor.P

namespace Go.Proofs.YtijmdlhcidjpmaaDoor.P
open Go.RowKit Go.Proofs.YtijmdlhcidjpmaaDoorW.PrintWords Go.Proofs.YtijmdlhcidjpmaaDoorW.PrintLast Go.Proofs.YtijmdlhcidjpmaaDoorW.PrintMore
attribute [local go_sem] max2_int min2_int max_two min_two max_three min_three max_four min_four
set_option linter.unusedVariables false
set_option linter.unusedSimpArgs false
end Go.Proofs.YtijmdlhcidjpmaaDoor.P

namespace Go.Proofs.YtijmdlhcidjpmaaDoor.P
open Go.RowKit Go.Proofs.YtijmdlhcidjpmaaDoorW.PrintWords Go.Proofs.YtijmdlhcidjpmaaDoorW.PrintLast Go.Proofs.YtijmdlhcidjpmaaDoorW.PrintMore
attribute [local go_sem] max2_int min2_int max_two min_two max_three min_three max_four min_four
set_option linter.unusedVariables false
set_option linter.unusedSimpArgs false
end Go.Proofs.YtijmdlhcidjpmaaDoor.P

namespace Go.Proofs.YtijmdlhcidjpmaaDoor.P
open Go.RowKit Go.Proofs.YtijmdlhcidjpmaaDoorW.PrintWords Go.Proofs.YtijmdlhcidjpmaaDoorW.PrintLast Go.Proofs.YtijmdlhcidjpmaaDoorW.PrintMore
attribute [local go_sem] max2_int min2_int max_two min_two max_three min_three max_four min_four
set_option linter.unusedVariables false
set_option linter.unusedSimpArgs false
end Go.Proofs.YtijmdlhcidjpmaaDoor.P

namespace Go.Proofs.YtijmdlhcidjpmaaDoor.P
open Go.RowKit Go.Proofs.YtijmdlhcidjpmaaDoorW.PrintWords Go.Proofs.YtijmdlhcidjpmaaDoorW.PrintLast Go.Proofs.YtijmdlhcidjpmaaDoorW.PrintMore
attribute [local go_sem] max2_int min2_int max_two min_two max_three min_three max_four min_four
set_option linter.unusedVariables false
set_option linter.unusedSimpArgs false
end Go.Proofs.YtijmdlhcidjpmaaDoor.P

namespace Go.Proofs.YtijmdlhcidjpmaaDoor.P
open Go.RowKit Go.Proofs.YtijmdlhcidjpmaaDoorW.PrintWords Go.Proofs.YtijmdlhcidjpmaaDoorW.PrintLast Go.Proofs.YtijmdlhcidjpmaaDoorW.PrintMore
attribute [local go_sem] max2_int min2_int max_two min_two max_three min_three max_four min_four
set_option linter.unusedVariables false
set_option linter.unusedSimpArgs false
end Go.Proofs.YtijmdlhcidjpmaaDoor.P

namespace Go.Proofs.YtijmdlhcidjpmaaDoor.P
open Go.RowKit Go.Proofs.YtijmdlhcidjpmaaDoorW.PrintWords Go.Proofs.YtijmdlhcidjpmaaDoorW.PrintLast Go.Proofs.YtijmdlhcidjpmaaDoorW.PrintMore
attribute [local go_sem] max2_int min2_int max_two min_two max_three min_three max_four min_four
set_option linter.unusedVariables false
set_option linter.unusedSimpArgs false
end Go.Proofs.YtijmdlhcidjpmaaDoor.P

namespace Go.Proofs.YtijmdlhcidjpmaaDoor.P
open Go.RowKit Go.Proofs.YtijmdlhcidjpmaaDoorW.PrintWords Go.Proofs.YtijmdlhcidjpmaaDoorW.PrintLast Go.Proofs.YtijmdlhcidjpmaaDoorW.PrintMore
attribute [local go_sem] max2_int min2_int max_two min_two max_three min_three max_four min_four
set_option linter.unusedVariables false
set_option linter.unusedSimpArgs false
end Go.Proofs.YtijmdlhcidjpmaaDoor.P

namespace Go.Proofs.YtijmdlhcidjpmaaDoor.P
open Go.RowKit Go.Proofs.YtijmdlhcidjpmaaDoorW.PrintWords Go.Proofs.YtijmdlhcidjpmaaDoorW.PrintLast Go.Proofs.YtijmdlhcidjpmaaDoorW.PrintMore
attribute [local go_sem] max2_int min2_int max_two min_two max_three min_three max_four min_four
set_option linter.unusedVariables false
set_option linter.unusedSimpArgs false
end Go.Proofs.YtijmdlhcidjpmaaDoor.P

namespace Go.Proofs.YtijmdlhcidjpmaaDoor.P
open Go.RowKit Go.Proofs.YtijmdlhcidjpmaaDoorW.PrintWords Go.Proofs.YtijmdlhcidjpmaaDoorW.PrintLast Go.Proofs.YtijmdlhcidjpmaaDoorW.PrintMore
attribute [local go_sem] max2_int min2_int max_two min_two max_three min_three max_four min_four
set_option linter.unusedVariables false
set_option linter.unusedSimpArgs false
end Go.Proofs.YtijmdlhcidjpmaaDoor.P

namespace Go.Proofs.YtijmdlhcidjpmaaDoor.P
open Go.RowKit Go.Proofs.YtijmdlhcidjpmaaDoorW.PrintWords Go.Proofs.YtijmdlhcidjpmaaDoorW.PrintLast Go.Proofs.YtijmdlhcidjpmaaDoorW.PrintMore
attribute [local go_sem] max2_int min2_int max_two min_two max_three min_three max_four min_four
set_option linter.unusedVariables false
set_option linter.unusedSimpArgs false
end Go.Proofs.YtijmdlhcidjpmaaDoor.P

namespace Go.Proofs.YtijmdlhcidjpmaaDoor.P
open Go.RowKit Go.Proofs.YtijmdlhcidjpmaaDoorW.PrintWords Go.Proofs.YtijmdlhcidjpmaaDoorW.PrintLast Go.Proofs.YtijmdlhcidjpmaaDoorW.PrintMore
attribute [local go_sem] max2_int min2_int max_two min_two max_three min_three max_four min_four
set_option linter.unusedVariables false
set_option linter.unusedSimpArgs false
end Go.Proofs.YtijmdlhcidjpmaaDoor.P

namespace Go.Proofs.YtijmdlhcidjpmaaDoor.P
open Go.RowKit Go.Proofs.YtijmdlhcidjpmaaDoorW.PrintWords Go.Proofs.YtijmdlhcidjpmaaDoorW.PrintLast Go.Proofs.YtijmdlhcidjpmaaDoorW.PrintMore
attribute [local go_sem] max2_int min2_int max_two min_two max_three min_three max_four min_four
set_option linter.unusedVariables false
set_option linter.unusedSimpArgs false
def before (l : List Int) (i : Nat) : Option Int := if i = 0 then none else l[i - 1]?
def letters (l : List Int) : List Int := l.map fun x => (wrap64 (65 + x)) % 256
def groupTextB (l : List Int) : ByteArray := if l = [] then (⟨#[45]⟩ : ByteArray) else strOfNums (letters l)
theorem letters_snoc (l : List Int) (i : Nat) (h : i < l.length) : letters (l.take i) ++ [(wrap64 (65 + l[i])) % 256] = letters (l.take (i + 1)) := by
 rw [List.take_succ_eq_append_getElem h, letters, letters, List.map_append]
 rfl
theorem letters_length (l : List Int) : (letters l).length = l.length := by simp [letters]
theorem impl_groupText_ev (l : List Int) (hl : l.length ≤ 1048576) : Ev (fun k => impl_groupText.f k l) (groupTextB l) := by
 unfold impl_groupText.f groupTextB
 by_cases h0 : l = []
 ·subst h0
  exact Ev.now _
 ·simp only [if_neg h0, if_neg (show ¬ ((l.length : Int) = 0) from by have := List.length_pos_iff.2 h0; omega)]
  have go : ∀ (d i : Nat), i + d = l.length → Ev (fun k => impl_groupText.l0 k (letters (l.take i)) l (l.length : Int) (i : Int)) (strOfNums (letters l)) := by
   intro d
   induction d with
   | zero =>
    intro i hi
    refine Ev.step (f := fun _ => some (strOfNums (letters l))) (fun k => ?_) (Ev.now _)
    simp only [impl_groupText.l0]
    rw [if_neg (by omega), List.take_of_length_le (show l.length ≤ i by omega)]
   | succ d ih =>
    intro i hi
    have hlt : i < l.length := by omega
    refine Ev.step (fun k => ?_) (ih (i + 1) (by omega))
    simp only [impl_groupText.l0]
    rw [if_pos (by omega), if_pos (by omega), if_pos (by omega), if_pos (by rw [letters_length, List.length_take]; omega), rd_nat l i hlt, letters_snoc l i hlt, wr (x := (i : Int) + 1) (by omega) (by omega)]
    rfl
  exact go l.length 0 (by omega)
end Go.Proofs.YtijmdlhcidjpmaaDoor.P

namespace Go.Proofs.YtijmdlhcidjpmaaDoor.P
open Go.RowKit Go.Proofs.YtijmdlhcidjpmaaDoorW.PrintWords Go.Proofs.YtijmdlhcidjpmaaDoorW.PrintLast Go.Proofs.YtijmdlhcidjpmaaDoorW.PrintMore
attribute [local go_sem] max2_int min2_int max_two min_two max_three min_three max_four min_four
set_option linter.unusedVariables false
set_option linter.unusedSimpArgs false
end Go.Proofs.YtijmdlhcidjpmaaDoor.P

namespace Go.Proofs.YtijmdlhcidjpmaaDoor.P
open Go.RowKit Go.Proofs.YtijmdlhcidjpmaaDoorW.PrintWords Go.Proofs.YtijmdlhcidjpmaaDoorW.PrintLast Go.Proofs.YtijmdlhcidjpmaaDoorW.PrintMore
attribute [local go_sem] max2_int min2_int max_two min_two max_three min_three max_four min_four
set_option linter.unusedVariables false
set_option linter.unusedSimpArgs false
def From (P : Nat → Prop) : Prop := ∃ K, ∀ k, K ≤ k → P k
theorem From.and {P Q : Nat → Prop} (hp : From P) (hq : From Q) : From fun k => P k ∧ Q k := by
 obtain ⟨K, hK⟩ := hp
 obtain ⟨L, hL⟩ := hq
 exact ⟨max K L, fun k h => ⟨hK k (by omega), hL k (by omega)⟩⟩
theorem From.now {P : Nat → Prop} (h : From P) : ∃ k, P k := by
 obtain ⟨K, hK⟩ := h
 exact ⟨K, hK K (Nat.le_refl _)⟩
end Go.Proofs.YtijmdlhcidjpmaaDoor.P

namespace Go.Proofs.YtijmdlhcidjpmaaDoor.P
open Go.RowKit Go.Proofs.YtijmdlhcidjpmaaDoorW.PrintWords Go.Proofs.YtijmdlhcidjpmaaDoorW.PrintLast Go.Proofs.YtijmdlhcidjpmaaDoorW.PrintMore
attribute [local go_sem] max2_int min2_int max_two min_two max_three min_three max_four min_four
set_option linter.unusedVariables false
set_option linter.unusedSimpArgs false
mutual
def mkT : Int → S46 → S46
 | m, ⟨_, _, l⟩ => ⟨m, m + 1, mkL (m + 2) l⟩
def mkL : Int → List S46 → List S46
 | _, [] => []
 | m, x :: l => mkT m x :: mkL (m + 2 + 2 * (mT x : Int)) l
end
theorem mkT_parts (m : Int) (x : S46) : mkT m x = ⟨m, m + 1, mkL (m + 2) x.f2⟩ := by cases x; simp only [mkT]
theorem mkL_cons (m : Int) (x : S46) (l : List S46) : mkL m (x :: l) = ⟨m, m + 1, mkL (m + 2) x.f2⟩ :: mkL (m + 2 + 2 * (mT x : Int)) l := by rw [← mkT_parts]; simp only [mkL]
theorem rdT_mid (pre r : List S46) (y : S46) : rd_T46 (pre ++ y :: r) (pre.length : Int) = y := by simp [rd_T46]
theorem mL_cons (x : S46) (l : List S46) : mL (x :: l) = 1 + mT x + mL l := by simp only [mL]
theorem markGS_ev : ∀ (n : Nat) (rest : List S46), mL rest ≤ n → n ≤ 1048576 → ∀ (pre : List S46) (m : Int), 0 ≤ m → m + 2 * (mL rest : Int) ≤ 4611686018427387904 → pre.length + rest.length ≤ 4611686018427387904 → Ev (fun k => laws_markGateS.l0 k (pre ++ rest) m (pre.length : Int)) (m + 2 * (mL rest : Int), pre ++ mkL m rest) := by
 intro n
 induction n with
 | zero =>
  intro rest hn hm pre m h0 h1 hp
  cases rest with
  | cons x r => rw [mL_cons] at hn; omega
  | nil =>
   refine Ev.step (f := fun _ => some (m, pre ++ [])) (fun k => ?_) ?_
   ·simp only [laws_markGateS.l0]
    rw [if_neg (show ¬ ((pre.length : Int) < ((pre ++ ([] : List S46)).length : Int)) by simp)]
   ·rw [show m + 2 * ((mL ([] : List S46) : Nat) : Int) = m by simp [mL], show mkL m [] = [] by simp only [mkL]]
    exact Ev.now _
 | succ n ih =>
  intro rest hn hm pre m h0 h1 hp
  cases rest with
  | nil =>
   refine Ev.step (f := fun _ => some (m, pre ++ [])) (fun k => ?_) ?_
   ·simp only [laws_markGateS.l0]
    rw [if_neg (show ¬ ((pre.length : Int) < ((pre ++ ([] : List S46)).length : Int)) by simp)]
   ·rw [show m + 2 * ((mL ([] : List S46) : Nat) : Int) = m by simp [mL], show mkL m [] = [] by simp only [mkL]]
    exact Ev.now _
  | cons x r =>
   rw [mL_cons] at hn h1
   rw [List.length_cons] at hp
   have hk := mT_kids x
   have hlx := mL_len x.f2
   have e1 : Ev (fun k => laws_markGateS.f k x.f2 (m + 2)) (m + 2 + 2 * (mL x.f2 : Int), mkL (m + 2) x.f2) :=
    Ev.step (f := fun k => laws_markGateS.l0 k x.f2 (m + 2) 0) (fun k => by simp only [laws_markGateS.f]) (ih x.f2 (by omega) (by omega) [] (m + 2) (by omega) (by omega) (by rw [List.length_nil]; omega))
   refine Ev.step (f := fun k => (laws_markGateS.f k x.f2 (m + 2)).bind fun t => laws_markGateS.l0 k ((pre ++ x :: r).set pre.length ⟨m, m + 1, t.2⟩) t.1 ((pre.length + 1 : Nat) : Int)) (fun k => ?_) (Ev.bind e1 ?_)
   ·simp only [laws_markGateS.l0]
    rw [if_pos (by simp; omega), if_pos (by omega), rdT_mid, wr (x := m + 1) (by omega) (by omega), wr (x := m + 1 + 1) (by omega) (by omega), wr (x := (pre.length : Int) + 1) (by omega) (by omega), Int.toNat_natCast, show m + 1 + 1 = m + 2 by omega]
    rfl
   ·dsimp only
    have e : (pre ++ x :: r).set pre.length (⟨m, m + 1, mkL (m + 2) x.f2⟩ : S46) = (pre ++ [⟨m, m + 1, mkL (m + 2) x.f2⟩]) ++ r := by
     rw [List.set_append_right _ _ (Nat.le_refl _), Nat.sub_self, List.set_cons_zero, List.append_assoc]; rfl
    have hl := mL_len r
    have h3 := ih r (by omega) (by omega) (pre ++ [⟨m, m + 1, mkL (m + 2) x.f2⟩]) (m + 2 + 2 * (mL x.f2 : Int)) (by omega) (by omega) (by rw [List.length_append, List.length_singleton]; omega)
    rw [List.length_append, List.length_singleton] at h3
    rw [e, mkL_cons, mL_cons, hk, show m + 2 * (((1 + mL x.f2 + mL r : Nat)) : Int) = m + 2 + 2 * (mL x.f2 : Int) + 2 * (mL r : Int) by omega, show pre ++ (⟨m, m + 1, mkL (m + 2) x.f2⟩ : S46) :: mkL (m + 2 + 2 * ((mL x.f2 : Nat) : Int)) r = (pre ++ [⟨m, m + 1, mkL (m + 2) x.f2⟩]) ++ mkL (m + 2 + 2 * ((mL x.f2 : Nat) : Int)) r by rw [List.append_assoc]; rfl]
    exact h3
theorem markGate_ev (a b : Int) (l : List S46) (h : mL l ≤ 1048576) : Ev (fun k => laws_markGate.f k a b l 1) (1 + 2 * (mL l : Int), mkL 1 l) :=
 Ev.step (f := fun k => laws_markGateS.l0 k l 1 0) (fun k => by simp only [laws_markGate.f, laws_markGateS.f]) (markGS_ev 1048576 l h (Nat.le_refl _) [] 1 (by omega) (by omega) (by have := mL_len l; rw [List.length_nil]; omega))
theorem heldGS_ev : ∀ (n : Nat) (rest : List S46), mL rest ≤ n → n ≤ 1048576 → ∀ (pre : List S46) (m : Int), 0 ≤ m → m + 2 * (mL rest : Int) ≤ 4611686018427387904 → pre.length + rest.length ≤ 4611686018427387904 → Ev (fun k => laws_heldGateS.l0 k (pre ++ mkL m rest) m (pre.length : Int)) (m + 2 * (mL rest : Int)) := by
 intro n
 induction n with
 | zero =>
  intro rest hn hm pre m h0 h1 hp
  cases rest with
  | cons x r => rw [mL_cons] at hn; omega
  | nil =>
   refine Ev.step (f := fun _ => some m) (fun k => ?_) ?_
   ·rw [show mkL m ([] : List S46) = [] by simp only [mkL]]
    simp only [laws_heldGateS.l0]
    rw [if_neg (show ¬ ((pre.length : Int) < ((pre ++ ([] : List S46)).length : Int)) by simp)]
   ·rw [show m + 2 * ((mL ([] : List S46) : Nat) : Int) = m by simp [mL]]
    exact Ev.now _
 | succ n ih =>
  intro rest hn hm pre m h0 h1 hp
  cases rest with
  | nil =>
   refine Ev.step (f := fun _ => some m) (fun k => ?_) ?_
   ·rw [show mkL m ([] : List S46) = [] by simp only [mkL]]
    simp only [laws_heldGateS.l0]
    rw [if_neg (show ¬ ((pre.length : Int) < ((pre ++ ([] : List S46)).length : Int)) by simp)]
   ·rw [show m + 2 * ((mL ([] : List S46) : Nat) : Int) = m by simp [mL]]
    exact Ev.now _
  | cons x r =>
   rw [mL_cons] at hn h1
   rw [List.length_cons] at hp
   have hk := mT_kids x
   have hlx := mL_len x.f2
   have e1 : Ev (fun k => laws_heldGateS.f k (mkL (m + 2) x.f2) (m + 2)) (m + 2 + 2 * (mL x.f2 : Int)) :=
    Ev.step (f := fun k => laws_heldGateS.l0 k (mkL (m + 2) x.f2) (m + 2) 0) (fun k => by simp only [laws_heldGateS.f]) (ih x.f2 (by omega) (by omega) [] (m + 2) (by omega) (by omega) (by rw [List.length_nil]; omega))
   rw [mkL_cons]
   refine Ev.step (f := fun k => (laws_heldGateS.f k (mkL (m + 2) x.f2) (m + 2)).bind fun t => if t < 0 then some (-1) else laws_heldGateS.l0 k (pre ++ ⟨m, m + 1, mkL (m + 2) x.f2⟩ :: mkL (m + 2 + 2 * (mT x : Int)) r) t ((pre.length + 1 : Nat) : Int)) (fun k => ?_) (Ev.bind e1 ?_)
   ·simp only [laws_heldGateS.l0]
    rw [if_pos (by simp; omega), if_pos (by omega), rdT_mid]
    dsimp only
    rw [if_pos rfl, wr (x := m + 1) (by omega) (by omega), if_pos rfl, wr (x := m + 1 + 1) (by omega) (by omega), wr (x := (pre.length : Int) + 1) (by omega) (by omega), show m + 1 + 1 = m + 2 by omega]
    rfl
   ·simp only [if_neg (show ¬ (m + 2 + 2 * ((mL x.f2 : Nat) : Int) < 0) by omega)]
    have hl := mL_len r
    have h3 := ih r (by omega) (by omega) (pre ++ [⟨m, m + 1, mkL (m + 2) x.f2⟩]) (m + 2 + 2 * (mL x.f2 : Int)) (by omega) (by omega) (by rw [List.length_append, List.length_singleton]; omega)
    rw [List.length_append, List.length_singleton] at h3
    rw [mL_cons, hk, show m + 2 * (((1 + mL x.f2 + mL r : Nat)) : Int) = m + 2 + 2 * (mL x.f2 : Int) + 2 * (mL r : Int) by omega, show pre ++ (⟨m, m + 1, mkL (m + 2) x.f2⟩ : S46) :: mkL (m + 2 + 2 * ((mL x.f2 : Nat) : Int)) r = (pre ++ [⟨m, m + 1, mkL (m + 2) x.f2⟩]) ++ mkL (m + 2 + 2 * ((mL x.f2 : Nat) : Int)) r by rw [List.append_assoc]; rfl]
    exact h3
theorem heldGate_ev (a b : Int) (l : List S46) (h : mL l ≤ 1048576) : Ev (fun k => laws_heldGate.f k a b (mkL 1 l) 1) (1 + 2 * (mL l : Int)) := by
 unfold laws_heldGate.f
 refine Ev.bind (Ev.step (f := fun k => laws_heldGateS.l0 k (mkL 1 l) 1 0) (fun k => by simp only [laws_heldGateS.f]) (heldGS_ev 1048576 l h (Nat.le_refl _) [] 1 (by omega) (by omega) (by have := mL_len l; rw [List.length_nil]; omega))) ?_
 simp only [if_neg (show ¬ (1 + 2 * ((mL l : Nat) : Int) < 0) by omega)]
 exact Ev.now _
end Go.Proofs.YtijmdlhcidjpmaaDoor.P

namespace Go.Proofs.YtijmdlhcidjpmaaDoor.P
open Go.RowKit Go.Proofs.YtijmdlhcidjpmaaDoorW.PrintWords Go.Proofs.YtijmdlhcidjpmaaDoorW.PrintLast Go.Proofs.YtijmdlhcidjpmaaDoorW.PrintMore
attribute [local go_sem] max2_int min2_int max_two min_two max_three min_three max_four min_four
set_option linter.unusedVariables false
set_option linter.unusedSimpArgs false
def spec_Decimal.f : Nat → Int → Option (ByteArray)
 | 0, _ => none
 | k + 1, a0 => if a0 ≥ 10 then ((spec_Decimal.f k (wrap64 (Int.tdiv a0 10))).bind fun t113 => ((some (([(wrap64 (48 + (Int.tmod a0 10))) % 256] : List Int) : List Int)).bind fun y114 => (if t113.size + (strOfNums y114).size ≤ 9223372036854775807 then (some (t113 ++ (strOfNums y114))) else (none)))) else (some (strOfNums (([(wrap64 (48 + a0)) % 256] : List Int))))
theorem spec_Decimal.mono_l : ∀ k, (∀ y0, LeO (spec_Decimal.f k y0) (spec_Decimal.f (k + 1) y0))
 | 0 => fun _ r h => by simp [spec_Decimal.f] at h
 | k + 1 => by
  have ih0 := spec_Decimal.mono_l k
  ·intro y0
   unfold spec_Decimal.f
   repeat' first
   | (with_reducible exact ih0 _)
   | (with_reducible exact LeO.refl _)
   | (with_reducible exact LeO.none _)
   | (with_reducible refine LeO.ite ?_ ?_)
   | (with_reducible refine LeO.bind ?_ (fun _ => ?_))
   | exact ih0 _
   | exact LeO.none _
   | refine LeO.ite ?_ ?_
   | refine LeO.bind ?_ (fun _ => ?_)
theorem spec_Decimal.mono : ∀ a0 k, LeO (spec_Decimal.f k a0) (spec_Decimal.f (k + 1) a0) := by
 intro a0 k
 have ih0 := spec_Decimal.mono_l k
 exact ih0 a0
end Go.Proofs.YtijmdlhcidjpmaaDoor.P

namespace Go.Proofs.YtijmdlhcidjpmaaDoor.P
open Go.RowKit Go.Proofs.YtijmdlhcidjpmaaDoorW.PrintWords Go.Proofs.YtijmdlhcidjpmaaDoorW.PrintLast Go.Proofs.YtijmdlhcidjpmaaDoorW.PrintMore
attribute [local go_sem] max2_int min2_int max_two min_two max_three min_three max_four min_four
set_option linter.unusedVariables false
set_option linter.unusedSimpArgs false
end Go.Proofs.YtijmdlhcidjpmaaDoor.P

namespace Go.Proofs.YtijmdlhcidjpmaaDoor.P
open Go.RowKit Go.Proofs.YtijmdlhcidjpmaaDoorW.PrintWords Go.Proofs.YtijmdlhcidjpmaaDoorW.PrintLast Go.Proofs.YtijmdlhcidjpmaaDoorW.PrintMore
attribute [local go_sem] max2_int min2_int max_two min_two max_three min_three max_four min_four
set_option linter.unusedVariables false
set_option linter.unusedSimpArgs false
end Go.Proofs.YtijmdlhcidjpmaaDoor.P

namespace Go.Proofs.YtijmdlhcidjpmaaDoor.P
open Go.RowKit Go.Proofs.YtijmdlhcidjpmaaDoorW.PrintWords Go.Proofs.YtijmdlhcidjpmaaDoorW.PrintLast Go.Proofs.YtijmdlhcidjpmaaDoorW.PrintMore
attribute [local go_sem] max2_int min2_int max_two min_two max_three min_three max_four min_four
set_option linter.unusedVariables false
set_option linter.unusedSimpArgs false
end Go.Proofs.YtijmdlhcidjpmaaDoor.P

namespace Go.Proofs.YtijmdlhcidjpmaaDoor.P
open Go.RowKit Go.Proofs.YtijmdlhcidjpmaaDoorW.PrintWords Go.Proofs.YtijmdlhcidjpmaaDoorW.PrintLast Go.Proofs.YtijmdlhcidjpmaaDoorW.PrintMore
attribute [local go_sem] max2_int min2_int max_two min_two max_three min_three max_four min_four
set_option linter.unusedVariables false
set_option linter.unusedSimpArgs false
end Go.Proofs.YtijmdlhcidjpmaaDoor.P

namespace Go.Proofs.YtijmdlhcidjpmaaDoor.P
open Go.RowKit Go.Proofs.YtijmdlhcidjpmaaDoorW.PrintWords Go.Proofs.YtijmdlhcidjpmaaDoorW.PrintLast Go.Proofs.YtijmdlhcidjpmaaDoorW.PrintMore
attribute [local go_sem] max2_int min2_int max_two min_two max_three min_three max_four min_four
set_option linter.unusedVariables false
set_option linter.unusedSimpArgs false
end Go.Proofs.YtijmdlhcidjpmaaDoor.P

namespace Go.Proofs.YtijmdlhcidjpmaaDoor.P
open Go.RowKit Go.Proofs.YtijmdlhcidjpmaaDoorW.PrintWords Go.Proofs.YtijmdlhcidjpmaaDoorW.PrintLast Go.Proofs.YtijmdlhcidjpmaaDoorW.PrintMore
attribute [local go_sem] max2_int min2_int max_two min_two max_three min_three max_four min_four
set_option linter.unusedVariables false
set_option linter.unusedSimpArgs false
end Go.Proofs.YtijmdlhcidjpmaaDoor.P

namespace Go.Proofs.YtijmdlhcidjpmaaDoor.P
open Go.RowKit Go.Proofs.YtijmdlhcidjpmaaDoorW.PrintWords Go.Proofs.YtijmdlhcidjpmaaDoorW.PrintLast Go.Proofs.YtijmdlhcidjpmaaDoorW.PrintMore
attribute [local go_sem] max2_int min2_int max_two min_two max_three min_three max_four min_four
set_option linter.unusedVariables false
set_option linter.unusedSimpArgs false
end Go.Proofs.YtijmdlhcidjpmaaDoor.P

namespace Go.Proofs.YtijmdlhcidjpmaaDoor.P
open Go.RowKit Go.Proofs.YtijmdlhcidjpmaaDoorW.PrintWords Go.Proofs.YtijmdlhcidjpmaaDoorW.PrintLast Go.Proofs.YtijmdlhcidjpmaaDoorW.PrintMore
attribute [local go_sem] max2_int min2_int max_two min_two max_three min_three max_four min_four
set_option linter.unusedVariables false
set_option linter.unusedSimpArgs false
end Go.Proofs.YtijmdlhcidjpmaaDoor.P

namespace Go.Proofs.YtijmdlhcidjpmaaDoor.P
open Go.RowKit Go.Proofs.YtijmdlhcidjpmaaDoorW.PrintWords Go.Proofs.YtijmdlhcidjpmaaDoorW.PrintLast Go.Proofs.YtijmdlhcidjpmaaDoorW.PrintMore
attribute [local go_sem] max2_int min2_int max_two min_two max_three min_three max_four min_four
set_option linter.unusedVariables false
set_option linter.unusedSimpArgs false
end Go.Proofs.YtijmdlhcidjpmaaDoor.P

namespace Go.Proofs.YtijmdlhcidjpmaaDoor.P
open Go.RowKit Go.Proofs.YtijmdlhcidjpmaaDoorW.PrintWords Go.Proofs.YtijmdlhcidjpmaaDoorW.PrintLast Go.Proofs.YtijmdlhcidjpmaaDoorW.PrintMore
attribute [local go_sem] max2_int min2_int max_two min_two max_three min_three max_four min_four
set_option linter.unusedVariables false
set_option linter.unusedSimpArgs false
end Go.Proofs.YtijmdlhcidjpmaaDoor.P

namespace Go.Proofs.YtijmdlhcidjpmaaDoor.P
open Go.RowKit Go.Proofs.YtijmdlhcidjpmaaDoorW.PrintWords Go.Proofs.YtijmdlhcidjpmaaDoorW.PrintLast Go.Proofs.YtijmdlhcidjpmaaDoorW.PrintMore
attribute [local go_sem] max2_int min2_int max_two min_two max_three min_three max_four min_four
set_option linter.unusedVariables false
set_option linter.unusedSimpArgs false
end Go.Proofs.YtijmdlhcidjpmaaDoor.P

namespace Go.Proofs.YtijmdlhcidjpmaaDoor.P
open Go.RowKit Go.Proofs.YtijmdlhcidjpmaaDoorW.PrintWords Go.Proofs.YtijmdlhcidjpmaaDoorW.PrintLast Go.Proofs.YtijmdlhcidjpmaaDoorW.PrintMore
attribute [local go_sem] max2_int min2_int max_two min_two max_three min_three max_four min_four
set_option linter.unusedVariables false
set_option linter.unusedSimpArgs false
end Go.Proofs.YtijmdlhcidjpmaaDoor.P

namespace Go.Proofs.YtijmdlhcidjpmaaDoor.P
open Go.RowKit Go.Proofs.YtijmdlhcidjpmaaDoorW.PrintWords Go.Proofs.YtijmdlhcidjpmaaDoorW.PrintLast Go.Proofs.YtijmdlhcidjpmaaDoorW.PrintMore
attribute [local go_sem] max2_int min2_int max_two min_two max_three min_three max_four min_four
set_option linter.unusedVariables false
set_option linter.unusedSimpArgs false
end Go.Proofs.YtijmdlhcidjpmaaDoor.P

namespace Go.Proofs.YtijmdlhcidjpmaaDoor.P
open Go.RowKit Go.Proofs.YtijmdlhcidjpmaaDoorW.PrintWords Go.Proofs.YtijmdlhcidjpmaaDoorW.PrintLast Go.Proofs.YtijmdlhcidjpmaaDoorW.PrintMore
attribute [local go_sem] max2_int min2_int max_two min_two max_three min_three max_four min_four
set_option linter.unusedVariables false
set_option linter.unusedSimpArgs false
end Go.Proofs.YtijmdlhcidjpmaaDoor.P

namespace Go.Proofs.YtijmdlhcidjpmaaDoor.P
open Go.RowKit Go.Proofs.YtijmdlhcidjpmaaDoorW.PrintWords Go.Proofs.YtijmdlhcidjpmaaDoorW.PrintLast Go.Proofs.YtijmdlhcidjpmaaDoorW.PrintMore
attribute [local go_sem] max2_int min2_int max_two min_two max_three min_three max_four min_four
set_option linter.unusedVariables false
set_option linter.unusedSimpArgs false
end Go.Proofs.YtijmdlhcidjpmaaDoor.P

namespace Go.Proofs.YtijmdlhcidjpmaaDoor.P
open Go.RowKit Go.Proofs.YtijmdlhcidjpmaaDoorW.PrintWords Go.Proofs.YtijmdlhcidjpmaaDoorW.PrintLast Go.Proofs.YtijmdlhcidjpmaaDoorW.PrintMore
attribute [local go_sem] max2_int min2_int max_two min_two max_three min_three max_four min_four
set_option linter.unusedVariables false
set_option linter.unusedSimpArgs false
end Go.Proofs.YtijmdlhcidjpmaaDoor.P

namespace Go.Proofs.YtijmdlhcidjpmaaDoor.P
open Go.RowKit Go.Proofs.YtijmdlhcidjpmaaDoorW.PrintWords Go.Proofs.YtijmdlhcidjpmaaDoorW.PrintLast Go.Proofs.YtijmdlhcidjpmaaDoorW.PrintMore
attribute [local go_sem] max2_int min2_int max_two min_two max_three min_three max_four min_four
set_option linter.unusedVariables false
set_option linter.unusedSimpArgs false
end Go.Proofs.YtijmdlhcidjpmaaDoor.P

namespace Go.Proofs.YtijmdlhcidjpmaaDoor.P
open Go.RowKit Go.Proofs.YtijmdlhcidjpmaaDoorW.PrintWords Go.Proofs.YtijmdlhcidjpmaaDoorW.PrintLast Go.Proofs.YtijmdlhcidjpmaaDoorW.PrintMore
attribute [local go_sem] max2_int min2_int max_two min_two max_three min_three max_four min_four
set_option linter.unusedVariables false
set_option linter.unusedSimpArgs false
def decS (n : Int) : ByteArray := (impl_decimal.f n).getD (⟨#[]⟩ : ByteArray)
theorem dec_both : ∀ n : Fin 100, (spec_Decimal.f 3 (n.val : Int)).map (fun b => b.data.toList) = (impl_decimal.f (n.val : Int)).map (fun b => b.data.toList) ∧ (impl_decimal.f (n.val : Int)).isSome = true ∧ ((impl_decimal.f (n.val : Int)).getD (⟨#[]⟩ : ByteArray)).data.toList.length ≤ 2 := by decide +kernel
theorem bytes_ext {a b : ByteArray} (h : a.data.toList = b.data.toList) : a = b := by
 cases a with
 | mk a =>
  cases b with
  | mk b => exact congrArg ByteArray.mk (Array.toList_inj.mp h)
theorem impl_decimal_eq {n : Int} (h0 : 0 ≤ n) (h1 : n < 100) : impl_decimal.f n = some (decS n) := by
 have h := (dec_both ⟨n.toNat, by omega⟩).2.1
 rw [show (((⟨n.toNat, by omega⟩ : Fin 100).val : Nat) : Int) = n from by simp; omega] at h
 unfold decS
 cases e : impl_decimal.f n with
 | none => rw [e] at h; cases h
 | some r => rfl
theorem spec_Decimal_ev {n : Int} (h0 : 0 ≤ n) (h1 : n < 100) : Ev (fun k => spec_Decimal.f k n) (decS n) := by
 refine Ev.of (spec_Decimal.mono _) (k := 3) ?_
 have h := (dec_both ⟨n.toNat, by omega⟩).1
 rw [show (((⟨n.toNat, by omega⟩ : Fin 100).val : Nat) : Int) = n from by simp; omega, impl_decimal_eq h0 h1] at h
 cases e : spec_Decimal.f 3 n with
 | none => rw [e] at h; cases h
 | some r =>
  rw [e] at h
  exact congrArg some (bytes_ext (Option.some.inj h))
theorem decS_size {n : Int} (h0 : 0 ≤ n) (h1 : n < 100) : (decS n).size ≤ 2 := by
 have h := (dec_both ⟨n.toNat, by omega⟩).2.2
 rw [show (((⟨n.toNat, by omega⟩ : Fin 100).val : Nat) : Int) = n from by simp; omega] at h
 exact h
theorem strOfNums_size (l : List Int) : (strOfNums l).size = l.length := by simp [strOfNums, ByteArray.size]
end Go.Proofs.YtijmdlhcidjpmaaDoor.P

namespace Go.Proofs.YtijmdlhcidjpmaaDoor.P
open Go.RowKit Go.Proofs.YtijmdlhcidjpmaaDoorW.PrintWords Go.Proofs.YtijmdlhcidjpmaaDoorW.PrintLast Go.Proofs.YtijmdlhcidjpmaaDoorW.PrintMore
attribute [local go_sem] max2_int min2_int max_two min_two max_three min_three max_four min_four
set_option linter.unusedVariables false
set_option linter.unusedSimpArgs false
def rT : List S46 → Nat
 | [] => 0
 | x :: l => (1 + mT x) + rT l
theorem rT_mL : ∀ l : List S46, rT l = mL l
 | [] => rfl
 | x :: l => by simp only [rT, mL, rT_mL l]
theorem impl_GateSize_ev : ∀ (n : Nat) (a b : Int) (l : List S46), mL l ≤ n → n ≤ 1048576 → Ev (fun k => impl_GateSize.f k a b l) ((1 + mL l : Nat) : Int) := by
 intro n
 induction n using Nat.strongRecOn with
 | _ n ih =>
  intro a0 a1 l hn hm
  have hr := rT_mL l
  have hl := mL_len l
  have key : ∀ d i : Nat, i + d = l.length → ∀ b : Nat, b + rT (l.drop i) ≤ 1048577 → Ev (fun k => impl_GateSize.l0 k (b : Int) l (l.length : Int) (i : Int)) ((b + rT (l.drop i) : Nat) : Int) := by
   intro d
   induction d with
   | zero =>
    intro i hi b hb
    rw [List.drop_eq_nil_of_le (by omega), show b + rT [] = b from rfl]
    refine Ev.step (f := fun _ => some (b : Int)) (fun k => ?_) (Ev.now _)
    simp only [impl_GateSize.l0]
    rw [if_neg (by omega)]
   | succ d ihd =>
    intro i hi b hb
    have hlt : i < l.length := by omega
    have hx := mL_mem (List.getElem_mem hlt)
    have hk := mT_kids l[i]
    rw [List.drop_eq_getElem_cons hlt, show rT (l[i] :: l.drop (i + 1)) = (1 + mT l[i]) + rT (l.drop (i + 1)) from rfl] at hb ⊢
    have hnext := ihd (i + 1) (by omega) (b + (1 + mT l[i])) (by omega)
    refine Ev.step (f := fun k => (impl_GateSize.f k l[i].f0 l[i].f1 l[i].f2).bind fun t => impl_GateSize.l0 k (wrap64 ((b : Int) + t)) l (l.length : Int) ((i + 1 : Nat) : Int)) (fun k => ?_) (Ev.bind (ih (mL l[i].f2) (by omega) _ _ _ (Nat.le_refl _) (by omega)) ?_)
    ·simp only [impl_GateSize.l0]
     rw [if_pos (by omega), if_pos (by omega), if_pos (by omega), rdT_impl _ i hlt, wr (x := (i : Int) + 1) (by omega) (by omega)]
     rfl
    ·rw [← hk, wr (by omega) (by omega), show (b : Int) + ((1 + mT l[i] : Nat) : Int) = ((b + (1 + mT l[i]) : Nat) : Int) by omega, show b + (1 + mT l[i] + rT (l.drop (i + 1))) = b + (1 + mT l[i]) + rT (l.drop (i + 1)) by omega]
     exact hnext
  have h := key l.length 0 (by omega) 1 (by rw [List.drop_zero]; omega)
  rw [List.drop_zero, hr] at h
  exact Ev.step (f := fun k => impl_GateSize.l0 k 1 l (l.length : Int) 0) (fun k => by simp only [impl_GateSize.f]) h
end Go.Proofs.YtijmdlhcidjpmaaDoor.P

namespace Go.Proofs.YtijmdlhcidjpmaaDoor.P
open Go.RowKit Go.Proofs.YtijmdlhcidjpmaaDoorW.PrintWords Go.Proofs.YtijmdlhcidjpmaaDoorW.PrintLast Go.Proofs.YtijmdlhcidjpmaaDoorW.PrintMore
attribute [local go_sem] max2_int min2_int max_two min_two max_three min_three max_four min_four
set_option linter.unusedVariables false
set_option linter.unusedSimpArgs false
theorem idxG_ev (p : Nat → S46 → Option Bool) (q : S46 → Bool) (xs : List S46) (hlen : xs.length ≤ 4611686018427387904) (hp : ∀ x ∈ xs, Ev (fun k => p k x) (q x)) (hm : ∀ x k, LeO (p k x) (p (k + 1) x)) :
  ∀ d i : Nat, i + d = xs.length → ∃ r : Int, Ev (fun k => idxG.l0 k (p k) xs (i : Int)) r ∧ decide (0 ≤ r) = (xs.drop i).any q := by
 have up : ∀ {r : Int} {i : Int}, Ev (fun k => idxG.l0 k (p k) xs i) r → Ev (fun k => idxG.l0 k (p (k + 1)) xs i) r := by
  rintro r i ⟨K, h⟩
  exact ⟨K, fun k hk => idxG.mono_p _ _ _ _ _ (fun x => hm x k) r (h k hk)⟩
 have one : ∀ x ∈ xs, Ev (fun k => p (k + 1) x) (q x) := fun x hx => by
  obtain ⟨K, h⟩ := hp x hx
  exact ⟨K, fun k hk => h (k + 1) (by omega)⟩
 intro d
 induction d with
 | zero =>
  intro i hi
  refine ⟨-1, Ev.step (f := fun _ => some (-1)) (fun k => ?_) (Ev.now _), ?_⟩
  ·simp only [idxG.l0]
   rw [if_neg (by omega)]
  ·rw [List.drop_eq_nil_of_le (by omega)]; rfl
 | succ d ih =>
  intro i hi
  have hlt : i < xs.length := by omega
  obtain ⟨r, hr, hd⟩ := ih (i + 1) (by omega)
  have hx := one _ (List.getElem_mem hlt)
  rw [List.drop_eq_getElem_cons hlt, List.any_cons]
  have step : ∀ {r : Int}, Ev (fun k => (p (k + 1) xs[i]).bind fun t => if t = true then some (i : Int) else idxG.l0 k (p (k + 1)) xs ((i + 1 : Nat) : Int)) r → Ev (fun k => idxG.l0 k (p k) xs (i : Int)) r := fun h => by
   refine Ev.step (g := fun k => idxG.l0 k (p k) xs (i : Int)) (fun k => ?_) h
   simp only [idxG.l0]
   rw [if_pos (by omega), if_pos (by omega), rdT_impl xs i hlt, wr (by omega) (by omega)]
   rfl
  cases hq : q xs[i] with
  | true =>
   refine ⟨i, step (Ev.bind hx ?_), ?_⟩
   ·simp only [hq, if_true]; exact Ev.now _
   ·rw [Bool.true_or]; exact decide_eq_true (by omega)
  | false =>
   refine ⟨r, step (Ev.bind hx ?_), ?_⟩
   ·simp only [hq]; exact up hr
   ·rw [Bool.false_or]; exact hd
theorem hasG_ev (p : Nat → S46 → Option Bool) (q : S46 → Bool) (xs : List S46) (hlen : xs.length ≤ 4611686018427387904) (hp : ∀ x ∈ xs, Ev (fun k => p k x) (q x)) (hm : ∀ x k, LeO (p k x) (p (k + 1) x)) : Ev (fun k => hasG.f k (p k) xs) (xs.any q) := by
 obtain ⟨r, hr, hd⟩ := idxG_ev p q xs hlen hp hm xs.length 0 (by omega)
 rw [List.drop_zero] at hd
 rw [← hd]
 exact Ev.bind hr (Ev.now _)
theorem not_any_allG {α : Type} (l : List α) (q : α → Bool) : (!(l.any fun a => !q a)) = l.all q := by
 induction l with
 | nil => rfl
 | cons a l ih => rw [List.any_cons, List.all_cons, ← ih, Bool.not_or, Bool.not_not]
mutual
def dT : S46 → Nat
 | ⟨_, _, l⟩ => 1 + dL l
def dL : List S46 → Nat
 | [] => 0
 | x :: l => max (dT x) (dL l)
end
mutual
def fT (h : Int) : S46 → Bool
 | ⟨a, b, l⟩ => if l.isEmpty then (decide (b = 0) && decide (0 ≤ a ∧ a ≤ h - 1)) else (fL h l && (decide (a = -1) && decide (1 ≤ b ∧ b ≤ (l.length : Int))))
def fL (h : Int) : List S46 → Bool
 | [] => true
 | x :: l => fT h x && fL h l
end
theorem dT_parts (x : S46) : dT x = 1 + dL x.f2 := by cases x; simp only [dT]
theorem fT_parts (h : Int) (x : S46) : fT h x = if x.f2.isEmpty then (decide (x.f1 = 0) && decide (0 ≤ x.f0 ∧ x.f0 ≤ h - 1)) else (fL h x.f2 && (decide (x.f0 = -1) && decide (1 ≤ x.f1 ∧ x.f1 ≤ (x.f2.length : Int)))) := by cases x; simp only [fT]
theorem fL_all (h : Int) : ∀ l : List S46, fL h l = l.all (fT h)
 | [] => by simp only [fL, List.all_nil]
 | x :: l => by simp only [fL, List.all_cons, fL_all h l]
theorem dL_le : ∀ (l : List S46) (n : Nat), decide (dL l ≤ n) = l.all fun x => decide (dT x ≤ n)
 | [], n => by simp [dL]
 | x :: l, n => by
  have e : dL (x :: l) = max (dT x) (dL l) := by simp only [dL]
  rw [List.all_cons, ← dL_le l n]
  by_cases h1 : dT x ≤ n
  ·by_cases h2 : dL l ≤ n
   ·rw [decide_eq_true h1, decide_eq_true h2, decide_eq_true (show dL (x :: l) ≤ n by omega)]; rfl
   ·rw [decide_eq_false h2, Bool.and_false, decide_eq_false (show ¬ dL (x :: l) ≤ n by omega)]
  ·rw [decide_eq_false h1, Bool.false_and, decide_eq_false (show ¬ dL (x :: l) ≤ n by omega)]
theorem all_and {α : Type} (p q : α → Bool) (l : List α) : (l.all fun y => p y && q y) = (l.all p && l.all q) := by
 induction l with
 | nil => rfl
 | cons x l ih =>
  rw [List.all_cons, List.all_cons, List.all_cons, ih]
  cases p x <;> cases q x <;> simp
theorem dL_nil : dL [] = 0 := by simp only [dL]
theorem dL_cons (x : S46) (l : List S46) : dL (x :: l) = max (dT x) (dL l) := by simp only [dL]
theorem dL_mL : ∀ n, ∀ l : List S46, mL l ≤ n → dL l ≤ mL l := by
 intro n
 induction n with
 | zero =>
  intro l h
  cases l with
  | nil => rw [dL_nil]; exact Nat.zero_le _
  | cons x l => simp only [mL] at h; omega
 | succ n ih =>
  intro l h
  induction l with
  | nil => rw [dL_nil]; exact Nat.zero_le _
  | cons x l ihl =>
   rw [dL_cons, dT_parts]
   simp only [mL] at h ⊢
   have hk := mT_kids x
   have h1 := ih x.f2 (by omega)
   have h2 := ihl (by omega)
   exact Nat.max_le.mpr ⟨by omega, by omega⟩
theorem spec_l02Left_ev : ∀ (n : Nat) (x : S46), mT x ≤ n → n ≤ 1048576 → ∀ left : Int, 0 ≤ left → left ≤ 1048576 → ∃ t : Int, Ev (fun k => spec_l02Left.f k x left) t ∧ (((1 + mT x : Nat) : Int) ≤ left → t = left - ((1 + mT x : Nat) : Int)) ∧ (¬ ((1 + mT x : Nat) : Int) ≤ left → t < 0) ∧ -1 ≤ t := by
 intro n
 induction n using Nat.strongRecOn with
 | _ n ih =>
  intro x hn hm left h0 h1
  have hk := mT_kids x
  have hr := rT_mL x.f2
  have hl := mL_len x.f2
  have key : ∀ d i : Nat, i + d = x.f2.length → ∀ b : Int, -1 ≤ b → b ≤ 1048576 → ∃ t : Int, Ev (fun k => spec_l02Left.l0 k x b (i : Int)) t ∧ ((rT (x.f2.drop i) : Int) ≤ b → t = b - rT (x.f2.drop i)) ∧ (¬ (rT (x.f2.drop i) : Int) ≤ b → t < 0) ∧ -1 ≤ t := by
   intro d
   induction d with
   | zero =>
    intro i hi b hb0 hb1
    rw [List.drop_eq_nil_of_le (by omega), show rT [] = 0 from rfl]
    refine ⟨b, Ev.step (f := fun _ => some b) (fun k => ?_) (Ev.now _), fun _ => by omega, fun _ => by omega, hb0⟩
    simp only [spec_l02Left.l0]
    rw [if_neg (by omega)]
   | succ d ihd =>
    intro i hi b hb0 hb1
    have hlt : i < x.f2.length := by omega
    have hx := mL_mem (List.getElem_mem hlt)
    rw [List.drop_eq_getElem_cons hlt, show rT (x.f2[i] :: x.f2.drop (i + 1)) = (1 + mT x.f2[i]) + rT (x.f2.drop (i + 1)) from rfl]
    by_cases hb : b ≥ 0
    ·obtain ⟨t, ht, h2, h3, h4⟩ := ih (mT x.f2[i]) (by omega) x.f2[i] (Nat.le_refl _) (by omega) b hb hb1
     have hle : t ≤ 1048576 := by
      by_cases q : ((1 + mT x.f2[i] : Nat) : Int) ≤ b
      ·have := h2 q; omega
      ·have := h3 q; omega
     obtain ⟨u, hu, g2, g3, g4⟩ := ihd (i + 1) (by omega) t h4 hle
     refine ⟨u, Ev.step (f := fun k => (spec_l02Left.f k x.f2[i] b).bind fun t => spec_l02Left.l0 k x t ((i + 1 : Nat) : Int)) (fun k => ?_) (Ev.bind ht hu), fun q => ?_, fun q => ?_, g4⟩
     ·simp only [spec_l02Left.l0]
      rw [if_pos (by omega), if_pos hb, if_pos (by omega), rdT_impl _ i hlt, wr (x := (i : Int) + 1) (by omega) (by omega)]
      rfl
     ·have e := h2 (by omega)
      have := g2 (by omega)
      omega
     ·by_cases q2 : ((1 + mT x.f2[i] : Nat) : Int) ≤ b
      ·have e := h2 q2
       exact g3 (by omega)
      ·have e := h3 q2
       exact g3 (by omega)
    ·refine ⟨b, Ev.step (f := fun _ => some b) (fun k => ?_) (Ev.now _), fun q => by omega, fun q => by omega, hb0⟩
     simp only [spec_l02Left.l0]
     rw [if_pos (by omega), if_neg hb]
  obtain ⟨t, ht, h2, h3, h4⟩ := key x.f2.length 0 (by omega) (left - 1) (by omega) (by omega)
  rw [List.drop_zero, hr, ← hk] at h2 h3
  refine ⟨t, Ev.step (f := fun k => spec_l02Left.l0 k x (left - 1) 0) (fun k => by simp only [spec_l02Left.f]; rw [wr (by omega) (by omega)]) ht, fun q => ?_, fun q => ?_, h4⟩
  ·have := h2 (by omega); omega
  ·exact h3 (by omega)
theorem max_eq (a b : Int) : spec_l00Max.f a b = some (max a b) := by
 unfold spec_l00Max.f
 by_cases h : a > b
 ·rw [if_pos h]; exact congrArg some (by omega)
 ·rw [if_neg h]; exact congrArg some (by omega)
theorem spec_l02Depth_ev : ∀ (n : Nat) (x : S46), mT x ≤ n → n ≤ 1048576 → Ev (fun k => spec_l02Depth.f k x) (dT x : Int) := by
 intro n
 induction n using Nat.strongRecOn with
 | _ n ih =>
  intro x hn hm
  have hk := mT_kids x
  have hl := mL_len x.f2
  have hd := dL_mL _ x.f2 (Nat.le_refl _)
  have key : ∀ d i : Nat, i + d = x.f2.length → ∀ b : Nat, b ≤ 1048577 → dL (x.f2.drop i) ≤ 1048577 → Ev (fun k => spec_l02Depth.l0 k x (b : Int) (i : Int)) ((1 + max b (dL (x.f2.drop i)) : Nat) : Int) := by
   intro d
   induction d with
   | zero =>
    intro i hi b hb _
    rw [List.drop_eq_nil_of_le (by omega), dL_nil]
    refine Ev.step (f := fun _ => some ((1 + max b 0 : Nat) : Int)) (fun k => ?_) (Ev.now _)
    simp only [spec_l02Depth.l0]
    rw [if_neg (by omega), wr (by omega) (by omega)]
    exact congrArg some (by omega)
   | succ d ihd =>
    intro i hi b hb hdl
    have hlt : i < x.f2.length := by omega
    have hx := mL_mem (List.getElem_mem hlt)
    rw [List.drop_eq_getElem_cons hlt, dL_cons] at hdl ⊢
    have hn2 := ihd (i + 1) (by omega) (max b (dT x.f2[i])) (by omega) (by omega)
    refine Ev.step (f := fun k => (spec_l02Depth.f k x.f2[i]).bind fun t => spec_l02Depth.l0 k x (max (b : Int) t) ((i + 1 : Nat) : Int)) (fun k => ?_) (Ev.bind (ih (mT x.f2[i]) (by omega) _ (Nat.le_refl _) (by omega)) ?_)
    ·simp only [spec_l02Depth.l0, max_eq, Option.bind_some]
     rw [if_pos (by omega), if_pos (by omega), rdT_impl _ i hlt, wr (x := (i : Int) + 1) (by omega) (by omega)]
     rfl
    ·rw [show max (b : Int) ((dT x.f2[i] : Nat) : Int) = ((max b (dT x.f2[i]) : Nat) : Int) by omega, show max b (max (dT x.f2[i]) (dL (x.f2.drop (i + 1)))) = max (max b (dT x.f2[i])) (dL (x.f2.drop (i + 1))) by omega]
     exact hn2
  have h := key x.f2.length 0 (by omega) 0 (by omega) (by rw [List.drop_zero]; omega)
  rw [List.drop_zero, Nat.zero_max, ← dT_parts] at h
  exact Ev.step (f := fun k => spec_l02Depth.l0 k x 0 0) (fun k => by simp only [spec_l02Depth.f]) h
theorem spec_l02Form_ev (h : Int) (hh : 1 ≤ h ∧ h ≤ 7) : ∀ (n : Nat) (x : S46), mT x ≤ n → n ≤ 1048576 → Ev (fun k => spec_l02Form.f k h x) (fT h x) := by
 intro n
 induction n using Nat.strongRecOn with
 | _ n ih =>
  intro x hn hm
  have hk := mT_kids x
  have hl := mL_len x.f2
  rw [fT_parts]
  by_cases c1 : (x.f2.length : Int) = 0
  ·have e0 : x.f2.isEmpty = true := by
    rw [List.isEmpty_iff]
    exact List.eq_nil_of_length_eq_zero (by omega)
   rw [if_pos e0]
   refine Ev.step (f := fun _ => some (decide (x.f1 = 0) && decide (0 ≤ x.f0 ∧ x.f0 ≤ h - 1))) (fun k => ?_) (Ev.now _)
   simp only [spec_l02Form.f]
   rw [if_pos c1, wr (by omega) (by omega)]
   by_cases c2 : x.f1 = 0
   ·rw [if_pos c2, spec_l00In_eq, decide_eq_true c2, Bool.true_and]
   ·rw [if_neg c2, decide_eq_false c2, Bool.false_and]
  ·have e0 : ¬ x.f2.isEmpty = true := by
    rw [List.isEmpty_iff]
    intro e
    rw [e] at c1
    exact c1 rfl
   rw [if_neg e0]
   have key : ∀ d i : Nat, i + d = x.f2.length → Ev (fun k => spec_l02Form.l0 k h x (i : Int)) (fL h (x.f2.drop i) && (decide (x.f0 = -1) && decide (1 ≤ x.f1 ∧ x.f1 ≤ (x.f2.length : Int)))) := by
    intro d
    induction d with
    | zero =>
     intro i hi
     rw [List.drop_eq_nil_of_le (by omega), show fL h [] = true from by simp only [fL], Bool.true_and]
     refine Ev.step (f := fun _ => some (decide (x.f0 = -1) && decide (1 ≤ x.f1 ∧ x.f1 ≤ (x.f2.length : Int)))) (fun k => ?_) (Ev.now _)
     simp only [spec_l02Form.l0]
     rw [if_neg (by omega)]
     by_cases c2 : x.f0 = -1
     ·rw [if_pos c2, spec_l00In_eq, decide_eq_true c2, Bool.true_and]
     ·rw [if_neg c2, decide_eq_false c2, Bool.false_and]
    | succ d ihd =>
     intro i hi
     have hlt : i < x.f2.length := by omega
     have hx := mL_mem (List.getElem_mem hlt)
     rw [List.drop_eq_getElem_cons hlt, show fL h (x.f2[i] :: x.f2.drop (i + 1)) = (fT h x.f2[i] && fL h (x.f2.drop (i + 1))) from by simp only [fL]]
     refine Ev.step (f := fun k => (spec_l02Form.f k h x.f2[i]).bind fun t => if t = true then spec_l02Form.l0 k h x ((i + 1 : Nat) : Int) else some false) (fun k => ?_) (Ev.bind (ih (mT x.f2[i]) (by omega) _ (Nat.le_refl _) (by omega)) ?_)
     ·simp only [spec_l02Form.l0]
      rw [if_pos (by omega), if_pos (by omega), rdT_impl _ i hlt, wr (x := (i : Int) + 1) (by omega) (by omega)]
      rfl
     ·cases fT h x.f2[i] with
      | true => rw [Bool.true_and]; exact ihd (i + 1) (by omega)
      | false => exact Ev.now _
   have hq := key x.f2.length 0 (by omega)
   rw [List.drop_zero] at hq
   exact Ev.step (f := fun k => spec_l02Form.l0 k h x 0) (fun k => by simp only [spec_l02Form.f]; rw [if_neg c1]) hq
theorem isFormed_ev (h : Int) (hh : 1 ≤ h ∧ h ≤ 7) : ∀ (d : Nat), d ≤ 1000 → ∀ x : S46, mT x ≤ 1048576 → Ev (fun k => impl_Gate_isFormed.f k x.f0 x.f1 x.f2 h (d : Int)) (decide (dT x ≤ d) && fT h x) := by
 intro d
 induction d with
 | zero =>
  intro hd x hm
  rw [decide_eq_false (by rw [dT_parts]; omega), Bool.false_and]
  exact Ev.step (f := fun _ => some false) (fun k => by simp only [impl_Gate_isFormed.f]; rw [if_pos (by omega)]) (Ev.now _)
 | succ d ih =>
  intro hd x hm
  have hk := mT_kids x
  have hl := mL_len x.f2
  rw [fT_parts]
  by_cases c1 : (x.f2.length : Int) = 0
  ·have e1 : x.f2 = [] := List.eq_nil_of_length_eq_zero (by omega)
   have e0 : x.f2.isEmpty = true := by rw [List.isEmpty_iff]; exact e1
   rw [if_pos e0, decide_eq_true (by rw [dT_parts, e1, dL_nil]; omega), Bool.true_and]
   refine Ev.step (f := fun _ => some (decide (x.f1 = 0) && decide (0 ≤ x.f0 ∧ x.f0 ≤ h - 1))) (fun k => ?_) (Ev.now _)
   simp only [impl_Gate_isFormed.f]
   rw [if_neg (by omega), if_pos c1, impl_within_eq, wr (by omega) (by omega)]
   simp only [Option.bind_some]
   by_cases c2 : x.f1 = 0
   ·rw [decide_eq_true c2, Bool.true_and, beq_iff_eq.mpr c2]
    cases decide (0 ≤ x.f0 ∧ x.f0 ≤ h - 1) <;> rfl
   ·rw [decide_eq_false c2, Bool.false_and, beq_eq_false_iff_ne.mpr c2]
    cases decide (0 ≤ x.f0 ∧ x.f0 ≤ h - 1) <;> rfl
  ·have e0 : ¬ x.f2.isEmpty = true := by
    rw [List.isEmpty_iff]
    intro e
    rw [e] at c1
    exact c1 rfl
   rw [if_neg e0, show decide (dT x ≤ d + 1) = decide (dL x.f2 ≤ d) from by rw [dT_parts]; by_cases q : dL x.f2 ≤ d; rw [decide_eq_true q, decide_eq_true (by omega)]; rw [decide_eq_false q, decide_eq_false (by omega)]]
   by_cases c2 : x.f0 = -1
   ·cases hw : decide (1 ≤ x.f1 ∧ x.f1 ≤ (x.f2.length : Int)) with
    | false =>
     rw [Bool.and_false, Bool.and_false, Bool.and_false]
     refine Ev.step (f := fun _ => some false) (fun k => ?_) (Ev.now _)
     simp only [impl_Gate_isFormed.f]
     rw [if_neg (by omega), if_neg c1, if_pos c2, impl_within_eq, hw]
     rfl
    | true =>
     rw [decide_eq_true c2, Bool.true_and, Bool.and_true, dL_le, fL_all]
     have hb := hasG_ev (fun k y => (impl_Gate_isFormed.f k y.f0 y.f1 y.f2 h (d : Int)).bind fun t => some (!t)) (fun y => !(decide (dT y ≤ d) && fT h y)) x.f2 (by omega) (fun y hy => Ev.bind (ih (by omega) y (by have := mL_mem hy; omega)) (Ev.now _)) (fun y k => LeO.bind (impl_Gate_isFormed.mono_l k _ _ _ _ _) (fun _ => LeO.refl _))
     refine Ev.step (f := fun k => (hasG.f k (fun y => (impl_Gate_isFormed.f k y.f0 y.f1 y.f2 h (d : Int)).bind fun t => some (!t)) x.f2).bind fun v => some (!v)) (fun k => ?_) (Ev.bind hb ?_)
     ·simp only [impl_Gate_isFormed.f]
      rw [if_neg (by omega), if_neg c1, if_pos c2, impl_within_eq, hw, wr (by omega) (by omega), show ((d + 1 : Nat) : Int) - 1 = (d : Int) by omega]
      rfl
     ·rw [not_any_allG, show (x.f2.all fun y => decide (dT y ≤ d) && fT h y) = (x.f2.all (fun x => decide (dT x ≤ d)) && x.f2.all (fT h)) from all_and _ _ _]
      exact Ev.now _
   ·rw [decide_eq_false c2, Bool.false_and, Bool.and_false, Bool.and_false]
    exact Ev.step (f := fun _ => some false) (fun k => by simp only [impl_Gate_isFormed.f]; rw [if_neg (by omega), if_neg c1, if_neg c2]) (Ev.now _)
def okT (h : Int) (x : S46) : Bool := decide (1 ≤ h ∧ h ≤ 7) && (decide (1 + mT x ≤ 60) && (decide (dT x ≤ 12) && fT h x))
theorem spec_l02Ok_ev (h : Int) (x : S46) (hx : mT x ≤ 1048576) : Ev (fun k => spec_l02Ok.f k h x) (okT h x) := by
 unfold spec_l02Ok.f okT
 rw [spec_l00In_eq]
 simp only [Option.bind_some]
 cases h1 : decide (1 ≤ h ∧ h ≤ 7) with
 | false => exact Ev.now _
 | true =>
  have hh := of_decide_eq_true h1
  simp only [if_true, Bool.true_and]
  obtain ⟨t, ht, g1, g2, _⟩ := spec_l02Left_ev _ x (Nat.le_refl _) hx 60 (by omega) (by omega)
  refine Ev.bind ht ?_
  by_cases c1 : 1 + mT x ≤ 60
  ·have := g1 (by omega)
   simp only [if_pos (show t ≥ 0 by omega), decide_eq_true c1, Bool.true_and]
   refine Ev.bind (spec_l02Depth_ev _ x (Nat.le_refl _) hx) ?_
   by_cases c2 : dT x ≤ 12
   ·simp only [if_pos (show (dT x : Int) ≤ 12 by omega), decide_eq_true c2, Bool.true_and]
    exact spec_l02Form_ev h hh _ x (Nat.le_refl _) hx
   ·simp only [if_neg (show ¬ (dT x : Int) ≤ 12 by omega), decide_eq_false c2, Bool.false_and]
    exact Ev.now _
  ·have := g2 (by omega)
   simp only [if_neg (show ¬ t ≥ 0 by omega), decide_eq_false c1, Bool.false_and]
   exact Ev.now _
theorem impl_ValidGate_ev (h a b : Int) (l : List S46) (hm : mL l ≤ 1048576) : Ev (fun k => impl_ValidGate.f k h a b l) (okT h ⟨a, b, l⟩) := by
 have hx : mT (⟨a, b, l⟩ : S46) ≤ 1048576 := by rw [mT_kids]; exact hm
 have hk : mT (⟨a, b, l⟩ : S46) = mL l := by rw [mT_kids]
 unfold impl_ValidGate.f okT
 rw [impl_within_eq]
 simp only [Option.bind_some]
 cases h1 : decide (1 ≤ h ∧ h ≤ 7) with
 | false => exact Ev.now _
 | true =>
  have hh := of_decide_eq_true h1
  simp only [if_true, Bool.true_and]
  refine Ev.bind (isFormed_ev h hh 12 (by omega) ⟨a, b, l⟩ hx) ?_
  cases decide (dT (⟨a, b, l⟩ : S46) ≤ 12) && fT h ⟨a, b, l⟩ with
  | false => rw [Bool.and_false]; exact Ev.now _
  | true =>
   rw [Bool.and_true, hk]
   simp only [if_true]
   refine Ev.bind (impl_GateSize_ev _ a b l (Nat.le_refl _) hm) ?_
   rw [show decide (((1 + mL l : Nat) : Int) ≤ 60) = decide (1 + mL l ≤ 60) from by by_cases q : 1 + mL l ≤ 60; rw [decide_eq_true q, decide_eq_true (by omega)]; rw [decide_eq_false q, decide_eq_false (by omega)]]
   exact Ev.now _
end Go.Proofs.YtijmdlhcidjpmaaDoor.P

namespace Go.Proofs.YtijmdlhcidjpmaaDoor.P
open Go.RowKit Go.Proofs.YtijmdlhcidjpmaaDoorW.PrintWords Go.Proofs.YtijmdlhcidjpmaaDoorW.PrintLast Go.Proofs.YtijmdlhcidjpmaaDoorW.PrintMore
attribute [local go_sem] max2_int min2_int max_two min_two max_three min_three max_four min_four
set_option linter.unusedVariables false
set_option linter.unusedSimpArgs false
mutual
def spec_l02Text.l0 : Nat → S46 → ByteArray → Int → Option ByteArray
 | 0, _, _, _ => none
 | k + 1, x, s, i => if i < (x.f2.length : Int) then (if 0 ≤ i then (if s.size ≤ 1000000000 then ((spec_l02Text.f k (rd_T46 x.f2 i)).bind fun t => if t.size ≤ 1000000000 then (if 0 < i then spec_l02Text.l0 k x ((s ++ (⟨#[44, 32]⟩ : ByteArray)) ++ t) (wrap64 (i + 1)) else spec_l02Text.l0 k x (s ++ t) (wrap64 (i + 1))) else none) else none) else none) else (if s.size ≤ 1000000000 then some (s ++ (⟨#[41]⟩ : ByteArray)) else none)
def spec_l02Text.f : Nat → S46 → Option ByteArray
 | 0, _ => none
 | k + 1, x => if (x.f2.length : Int) = 0 then some (strOfNums ([(wrap64 (65 + x.f0)) % 256] : List Int)) else ((spec_Decimal.f k x.f1).bind fun d => if d.size ≤ 1000000000 then spec_l02Text.l0 k x (d ++ (⟨#[40]⟩ : ByteArray)) 0 else none)
end
end Go.Proofs.YtijmdlhcidjpmaaDoor.P

namespace Go.Proofs.YtijmdlhcidjpmaaDoor.P
open Go.RowKit Go.Proofs.YtijmdlhcidjpmaaDoorW.PrintWords Go.Proofs.YtijmdlhcidjpmaaDoorW.PrintLast Go.Proofs.YtijmdlhcidjpmaaDoorW.PrintMore
attribute [local go_sem] max2_int min2_int max_two min_two max_three min_three max_four min_four
set_option linter.unusedVariables false
set_option linter.unusedSimpArgs false
end Go.Proofs.YtijmdlhcidjpmaaDoor.P

namespace Go.Proofs.YtijmdlhcidjpmaaDoor.P
open Go.RowKit Go.Proofs.YtijmdlhcidjpmaaDoorW.PrintWords Go.Proofs.YtijmdlhcidjpmaaDoorW.PrintLast Go.Proofs.YtijmdlhcidjpmaaDoorW.PrintMore
attribute [local go_sem] max2_int min2_int max_two min_two max_three min_three max_four min_four
set_option linter.unusedVariables false
set_option linter.unusedSimpArgs false
mutual
def txT : S46 → ByteArray
 | ⟨a, b, l⟩ => if l.isEmpty then strOfNums [(wrap64 (65 + a)) % 256] else ((decS b ++ (⟨#[40]⟩ : ByteArray)) ++ joinB (txL l)) ++ (⟨#[41]⟩ : ByteArray)
def txL : List S46 → List ByteArray
 | [] => []
 | x :: l => txT x :: txL l
end
theorem txT_parts (x : S46) : txT x = if x.f2.isEmpty then strOfNums [(wrap64 (65 + x.f0)) % 256] else ((decS x.f1 ++ (⟨#[40]⟩ : ByteArray)) ++ joinB (txL x.f2)) ++ (⟨#[41]⟩ : ByteArray) := by cases x; simp only [txT]
theorem txL_map : ∀ l : List S46, txL l = l.map txT
 | [] => by simp only [txL, List.map_nil]
 | x :: l => by simp only [txL, List.map_cons, txL_map l]
theorem joinB_nil : joinB [] = (⟨#[]⟩ : ByteArray) := rfl
theorem joinB_list (l : List ByteArray) : (joinB l).data.toList = Go.Lib.join (l.map (·.data.toList)) [44, 32] := by simp [joinB]
theorem joinB_one (t : ByteArray) : joinB [t] = t := bytes_ext (by rw [joinB_list, List.map_cons, List.map_nil, Go.Lib.join_one])
theorem join_tail_snoc (r : List (List UInt8)) (sep y : List UInt8) : Go.Lib.joinTail sep (r ++ [y]) = Go.Lib.joinTail sep r ++ (sep ++ y) := by simp [Go.Lib.joinTail]
theorem app_list (a b : ByteArray) : (a ++ b).data.toList = a.data.toList ++ b.data.toList := by simp
theorem joinB_snoc (u : ByteArray) (l : List ByteArray) (t : ByteArray) : joinB (u :: l ++ [t]) = (joinB (u :: l) ++ (⟨#[44, 32]⟩ : ByteArray)) ++ t := by
 apply bytes_ext
 rw [app_list, app_list, joinB_list, joinB_list, List.cons_append, List.map_cons, List.map_append, List.map_cons, List.map_nil, Go.Lib.join_cons, List.map_cons, Go.Lib.join_cons, join_tail_snoc]
 simp
theorem bapp_assoc (a b c : ByteArray) : (a ++ b) ++ c = a ++ (b ++ c) := bytes_ext (by rw [app_list, app_list, app_list, app_list, List.append_assoc])
theorem bapp_nil (a : ByteArray) : a ++ (⟨#[]⟩ : ByteArray) = a := bytes_ext (by rw [app_list]; exact List.append_nil _)
theorem joinB_size : ∀ (l : List ByteArray), (joinB l).size ≤ (l.map fun t => t.size + 2).sum := by
 intro l
 have e : (joinB l).size = (Go.Lib.join (l.map (·.data.toList)) [44, 32]).length := by rw [← joinB_list]; exact (Array.length_toList).symm
 rw [e]
 cases l with
 | nil => simp [Go.Lib.join_nil]
 | cons u l =>
  rw [List.map_cons, Go.Lib.join_length]
  have : ∀ l : List ByteArray, Go.Lib.lens (l.map (·.data.toList)) + 2 * l.length = (l.map fun t => t.size + 2).sum := by
   intro l
   induction l with
   | nil => rfl
   | cons v l ih =>
    simp only [Go.Lib.lens, List.map_cons, List.sum_cons, List.length_cons] at ih ⊢
    rw [← ih, show v.size = v.data.toList.length from (Array.length_toList).symm]
    omega
  have h := this (u :: l)
  rw [List.map_cons, List.length_cons] at h
  rw [← h, List.length_map]
  simp only [List.length_cons, List.length_nil]
  omega
theorem fL_cons2 (h : Int) (x : S46) (l : List S46) : fL h (x :: l) = (fT h x && fL h l) := by simp only [fL]
theorem fT_inner {h : Int} {x : S46} (hf : fT h x = true) (hne : x.f2 ≠ []) : (1 ≤ x.f1 ∧ x.f1 ≤ (x.f2.length : Int)) ∧ fL h x.f2 = true := by
 rw [fT_parts] at hf
 have : x.f2.isEmpty = false := by cases e : x.f2 with
  | nil => exact absurd e hne
  | cons _ _ => rfl
 rw [this] at hf
 simp only [Bool.false_eq_true, if_false, Bool.and_eq_true, decide_eq_true_eq] at hf
 exact ⟨hf.2.2, hf.1⟩
theorem tx_size (h : Int) : ∀ (n : Nat), n ≤ 98 → (∀ x : S46, mT x ≤ n → fT h x = true → (txT x).size + 4 ≤ 8 * (1 + mT x)) ∧ (∀ l : List S46, mL l ≤ n → fL h l = true → ((txL l).map fun t => t.size + 2).sum ≤ 8 * mL l) := by
 have leaf : ∀ x : S46, x.f2 = [] → (txT x).size + 4 ≤ 8 * (1 + mT x) := by
  intro x e
  rw [txT_parts, e]
  simp only [List.isEmpty_nil, if_true]
  rw [strOfNums_size, List.length_singleton]
  omega
 intro n
 induction n with
 | zero =>
  intro _
  refine ⟨fun x hx hf => ?_, fun l hl hf => ?_⟩
  ·have hk := mT_kids x
   cases e : x.f2 with
   | nil => exact leaf x e
   | cons y r => rw [e, mL_cons] at hk; omega
  ·cases l with
   | nil => rw [show txL ([] : List S46) = [] by simp only [txL]]; exact Nat.zero_le _
   | cons y r => rw [mL_cons] at hl; omega
 | succ n ih =>
  intro hn
  obtain ⟨ih1, ih2⟩ := ih (by omega)
  have hL : ∀ l : List S46, mL l ≤ n + 1 → fL h l = true → ((txL l).map fun t => t.size + 2).sum ≤ 8 * mL l := by
   intro l
   induction l with
   | nil => intro _ _; rw [show txL ([] : List S46) = [] by simp only [txL]]; exact Nat.zero_le _
   | cons y r ihr =>
    intro hl hf
    rw [mL_cons] at hl
    rw [fL_cons2, Bool.and_eq_true] at hf
    have h1 := ih1 y (by omega) hf.1
    have h2 := ihr (by omega) hf.2
    simp only [txL, List.map_cons, List.sum_cons]
    rw [mL_cons]
    omega
  refine ⟨fun x hx hf => ?_, hL⟩
  by_cases e : x.f2 = []
  ·exact leaf x e
  ·obtain ⟨⟨h1, h2⟩, h3⟩ := fT_inner hf e
   have hk := mT_kids x
   have hl := mL_len x.f2
   have h4 := hL x.f2 (by omega) h3
   have h5 := joinB_size (txL x.f2)
   have h6 := decS_size (n := x.f1) (by omega) (by omega)
   have e1 : (⟨#[40]⟩ : ByteArray).size = 1 := rfl
   have e2 : (⟨#[41]⟩ : ByteArray).size = 1 := rfl
   rw [txT_parts]
   have : x.f2.isEmpty = false := by cases e3 : x.f2 with
    | nil => exact absurd e3 e
    | cons _ _ => rfl
   rw [this]
   simp only [Bool.false_eq_true, if_false, ByteArray.size_append, e1, e2]
   omega
theorem gateText_ev (h : Int) : ∀ (n : Nat) (x : S46), mT x ≤ n → n ≤ 98 → fT h x = true → Ev (fun k => spec_l02Text.f k x) (txT x) ∧ Ev (fun k => textI.f k x) (txT x) := by
 have leaf : ∀ x : S46, x.f2 = [] → Ev (fun k => spec_l02Text.f k x) (txT x) ∧ Ev (fun k => textI.f k x) (txT x) := by
  intro x e
  rw [txT_parts, e]
  refine ⟨Ev.step (f := fun _ => some (strOfNums ([(wrap64 (65 + x.f0)) % 256] : List Int))) (fun k => ?_) (Ev.now _), Ev.step (f := fun k => impl_groupText.f k [x.f0]) (fun k => ?_) (impl_groupText_ev [x.f0] (by simp))⟩
  ·simp only [spec_l02Text.f]
   rw [e, if_pos (by rfl)]
  ·simp only [textI.f]
   rw [e, if_pos (by rfl)]
 intro n
 induction n with
 | zero =>
  intro x hx hn hf
  have hk := mT_kids x
  cases e : x.f2 with
  | nil => exact leaf x e
  | cons y r => rw [e, mL_cons] at hk; omega
 | succ n ih =>
  intro x hx hn hf
  by_cases hne : x.f2 = []
  ·exact leaf x hne
  have hk := mT_kids x
  obtain ⟨⟨hb1, hb2⟩, hfl⟩ := fT_inner hf hne
  have hlen := mL_len x.f2
  have hpos : 0 < x.f2.length := List.length_pos_iff.mpr hne
  have hemp : x.f2.isEmpty = false := by cases e3 : x.f2 with
   | nil => exact absurd e3 hne
   | cons _ _ => rfl
  have hd := decS_size (n := x.f1) (by omega) (by omega)
  have hml : ∀ p q : List S46, mL (p ++ q) = mL p + mL q := by
   intro p q
   induction p with
   | nil => simp [mL]
   | cons u p ihp => rw [List.cons_append, mL_cons, mL_cons, ihp]; omega
  have hflm : ∀ p q : List S46, fL h (p ++ q) = (fL h p && fL h q) := by
   intro p q
   rw [fL_all, fL_all, fL_all, List.all_append]
  have e1 : (⟨#[40]⟩ : ByteArray).size = 1 := rfl
  have e2 : (⟨#[44, 32]⟩ : ByteArray).size = 2 := rfl
  have hszL : ∀ p r : List S46, p ++ r = x.f2 → (joinB (txL p)).size ≤ 8 * mL p := by
   intro p r hp
   have h1 : mL x.f2 = mL p + mL r := by rw [← hp, hml]
   have h2 : fL h p = true := by rw [← hp, hflm, Bool.and_eq_true] at hfl; exact hfl.1
   exact Nat.le_trans (joinB_size _) ((tx_size h 98 (Nat.le_refl _)).2 p (by omega) h2)
  rw [txT_parts, hemp]
  simp only [Bool.false_eq_true, if_false]
  refine ⟨?_, ?_⟩
  ·have key : ∀ (r pre : List S46), pre ++ r = x.f2 → Ev (fun k => spec_l02Text.l0 k x ((decS x.f1 ++ (⟨#[40]⟩ : ByteArray)) ++ joinB (txL pre)) (pre.length : Int)) (((decS x.f1 ++ (⟨#[40]⟩ : ByteArray)) ++ joinB (txL x.f2)) ++ (⟨#[41]⟩ : ByteArray)) := by
    intro r
    induction r with
    | nil =>
     intro pre hp
     have hs := hszL pre [] hp
     rw [List.append_nil] at hp
     subst hp
     refine Ev.step (f := fun _ => some (((decS x.f1 ++ (⟨#[40]⟩ : ByteArray)) ++ joinB (txL x.f2)) ++ (⟨#[41]⟩ : ByteArray))) (fun k => ?_) (Ev.now _)
     simp only [spec_l02Text.l0]
     rw [if_neg (by omega), if_pos (by simp only [ByteArray.size_append, e1]; omega)]
    | cons z r ihr =>
     intro pre hp
     have hs := hszL pre (z :: r) hp
     have hsz : mL x.f2 = mL pre + (1 + mT z + mL r) := by rw [← hp, hml, mL_cons]
     have hfz : fT h z = true := by rw [← hp, hflm, fL_cons2, Bool.and_eq_true, Bool.and_eq_true] at hfl; exact hfl.2.1
     have hzs := (tx_size h 98 (Nat.le_refl _)).1 z (by omega) hfz
     have hll : x.f2.length = pre.length + (r.length + 1) := by rw [← hp, List.length_append, List.length_cons]
     have e3 := ihr (pre ++ [z]) (by rw [← hp, List.append_assoc]; rfl)
     rw [List.length_append, List.length_singleton] at e3
     refine Ev.step (f := fun k => (spec_l02Text.f k z).bind fun t => if t.size ≤ 1000000000 then (if 0 < (pre.length : Int) then spec_l02Text.l0 k x ((((decS x.f1 ++ (⟨#[40]⟩ : ByteArray)) ++ joinB (txL pre)) ++ (⟨#[44, 32]⟩ : ByteArray)) ++ t) ((pre.length + 1 : Nat) : Int) else spec_l02Text.l0 k x (((decS x.f1 ++ (⟨#[40]⟩ : ByteArray)) ++ joinB (txL pre)) ++ t) ((pre.length + 1 : Nat) : Int)) else none) (fun k => ?_) (Ev.bind (ih z (by omega) (by omega) hfz).1 ?_)
     ·simp only [spec_l02Text.l0]
      rw [if_pos (by omega), if_pos (by omega), if_pos (by simp only [ByteArray.size_append, e1]; omega), show rd_T46 x.f2 (pre.length : Int) = z by rw [← hp]; exact rdT_mid pre r z, wr (x := (pre.length : Int) + 1) (by omega) (by omega)]
      rfl
     ·simp only [if_pos (show (txT z).size ≤ 1000000000 by omega)]
      cases pre with
      | nil =>
       simp only [if_neg (show ¬ (0 < ((([] : List S46).length : Nat) : Int)) by simp)]
       rw [show txL ([] ++ [z]) = [txT z] by simp [txL], joinB_one] at e3
       rw [show txL ([] : List S46) = [] by simp only [txL], joinB_nil, bapp_nil]
       exact e3
      | cons u pre =>
       simp only [if_pos (show 0 < (((u :: pre).length : Nat) : Int) by rw [List.length_cons]; omega)]
       rw [show txL (u :: pre ++ [z]) = txT u :: txL pre ++ [txT z] by rw [txL_map, txL_map, List.cons_append, List.map_cons, List.map_append]; rfl, joinB_snoc] at e3
       rw [show txL (u :: pre) = txT u :: txL pre by simp only [txL]]
       rw [show ((decS x.f1 ++ (⟨#[40]⟩ : ByteArray)) ++ joinB (txT u :: txL pre)) ++ (⟨#[44, 32]⟩ : ByteArray) ++ txT z = (decS x.f1 ++ (⟨#[40]⟩ : ByteArray)) ++ ((joinB (txT u :: txL pre) ++ (⟨#[44, 32]⟩ : ByteArray)) ++ txT z) by simp only [bapp_assoc]]
       exact e3
   have k0 := key x.f2 [] rfl
   rw [show txL ([] : List S46) = [] by simp only [txL], joinB_nil, bapp_nil] at k0
   refine Ev.step (f := fun k => (spec_Decimal.f k x.f1).bind fun d => if d.size ≤ 1000000000 then spec_l02Text.l0 k x (d ++ (⟨#[40]⟩ : ByteArray)) 0 else none) (fun k => ?_) (Ev.bind (spec_Decimal_ev (n := x.f1) (by omega) (by omega)) ?_)
   ·simp only [spec_l02Text.f]
    rw [if_neg (by omega)]
   ·simp only [if_pos (show (decS x.f1).size ≤ 1000000000 by omega)]
    exact k0
  ·have key : ∀ (r pre : List S46), pre ++ r = x.f2 → Ev (fun k => textI.l0 k x (txL pre) (pre.length : Int)) (((decS x.f1 ++ (⟨#[40]⟩ : ByteArray)) ++ joinB (txL x.f2)) ++ (⟨#[41]⟩ : ByteArray)) := by
    intro r
    induction r with
    | nil =>
     intro pre hp
     have hs := hszL pre [] hp
     rw [List.append_nil] at hp
     subst hp
     refine Ev.step (f := fun k => (impl_decimal.f x.f1).bind fun d => if d.size ≤ 1000000000 then (if (joinB (txL x.f2)).size ≤ 1000000000 then (if (txL x.f2).length ≤ 1000000000 then some (((d ++ (⟨#[40]⟩ : ByteArray)) ++ joinB (txL x.f2)) ++ (⟨#[41]⟩ : ByteArray)) else none) else none) else none) (fun k => ?_) ?_
     ·simp only [textI.l0]
      rw [if_neg (by omega)]
     ·rw [impl_decimal_eq (n := x.f1) (by omega) (by omega)]
      simp only [Option.bind_some]
      rw [if_pos (by omega), if_pos (by omega), if_pos (by rw [txL_map, List.length_map]; omega)]
      exact Ev.now _
    | cons z r ihr =>
     intro pre hp
     have hsz : mL x.f2 = mL pre + (1 + mT z + mL r) := by rw [← hp, hml, mL_cons]
     have hfz : fT h z = true := by rw [← hp, hflm, fL_cons2, Bool.and_eq_true, Bool.and_eq_true] at hfl; exact hfl.2.1
     have hlp := mL_len pre
     have hll : x.f2.length = pre.length + (r.length + 1) := by rw [← hp, List.length_append, List.length_cons]
     have e3 := ihr (pre ++ [z]) (by rw [← hp, List.append_assoc]; rfl)
     rw [List.length_append, List.length_singleton, show txL (pre ++ [z]) = txL pre ++ [txT z] by rw [txL_map, txL_map, List.map_append]; rfl] at e3
     refine Ev.step (f := fun k => (textI.f k z).bind fun t => textI.l0 k x (txL pre ++ [t]) ((pre.length + 1 : Nat) : Int)) (fun k => ?_) (Ev.bind (ih z (by omega) (by omega) hfz).2 e3)
     simp only [textI.l0]
     rw [if_pos (by omega), if_pos (by omega), show rd_T46 x.f2 (pre.length : Int) = z by rw [← hp]; exact rdT_mid pre r z, wr (x := (pre.length : Int) + 1) (by omega) (by omega)]
     simp only [if_pos (show (txL pre).length < 1048576 by rw [txL_map, List.length_map]; omega)]
     rfl
   have k0 := key x.f2 [] rfl
   rw [show txL ([] : List S46) = [] by simp only [txL]] at k0
   refine Ev.step (f := fun k => textI.l0 k x [] 0) (fun k => ?_) k0
   simp only [textI.f]
   rw [if_neg (by omega)]
def TextRes (h : Int) (x : S46) : ByteArray := if okT h x = true then txT x else (⟨#[]⟩ : ByteArray)
theorem okT_text {h : Int} {x : S46} (e : okT h x = true) : mT x ≤ 59 ∧ fT h x = true := by
 unfold okT at e
 simp only [Bool.and_eq_true, decide_eq_true_eq] at e
 exact ⟨by omega, e.2.2.2⟩
theorem impl_GateText_ev (h a b : Int) (l : List S46) (hm : mL l ≤ 1048576) : Ev (fun k => impl_GateText.f k h a b l) (TextRes h ⟨a, b, l⟩) := by
 unfold impl_GateText.f TextRes
 refine Ev.bind (impl_ValidGate_ev h a b l (by omega)) ?_
 by_cases e : okT h ⟨a, b, l⟩ = true
 ·simp only [if_pos e]
  obtain ⟨h1, h2⟩ := okT_text e
  exact (gateText_ev h 59 ⟨a, b, l⟩ h1 (by omega) h2).2
 ·simp only [if_neg e]; exact Ev.now _
end Go.Proofs.YtijmdlhcidjpmaaDoor.P

namespace Go.Proofs.YtijmdlhcidjpmaaDoor.P
open Go.RowKit Go.Proofs.YtijmdlhcidjpmaaDoorW.PrintWords Go.Proofs.YtijmdlhcidjpmaaDoorW.PrintLast Go.Proofs.YtijmdlhcidjpmaaDoorW.PrintMore
attribute [local go_sem] max2_int min2_int max_two min_two max_three min_three max_four min_four
set_option linter.unusedVariables false
set_option linter.unusedSimpArgs false
def mkB (l : List UInt8) : ByteArray := ⟨l.toArray⟩
theorem mkB_data (l : List UInt8) : (mkB l).data.toList = l := rfl
theorem mkB_eta (s : ByteArray) : mkB s.data.toList = s := bytes_ext rfl
theorem mkB_size (l : List UInt8) : (mkB l).size = l.length := by simp [mkB, ByteArray.size]
theorem size_data (s : ByteArray) : s.size = s.data.toList.length := (Array.length_toList).symm
theorem mkB_ext {a b : List UInt8} (h : mkB a = mkB b) : a = b := by
 have := congrArg (fun s => s.data.toList) h
 simpa [mkB] using this
end Go.Proofs.YtijmdlhcidjpmaaDoor.P

namespace Go.Proofs.YtijmdlhcidjpmaaDoor.P
open Go.RowKit Go.Proofs.YtijmdlhcidjpmaaDoorW.PrintWords Go.Proofs.YtijmdlhcidjpmaaDoorW.PrintLast Go.Proofs.YtijmdlhcidjpmaaDoorW.PrintMore
attribute [local go_sem] max2_int min2_int max_two min_two max_three min_three max_four min_four
set_option linter.unusedVariables false
set_option linter.unusedSimpArgs false
end Go.Proofs.YtijmdlhcidjpmaaDoor.P

namespace Go.Proofs.YtijmdlhcidjpmaaDoor.P
open Go.RowKit Go.Proofs.YtijmdlhcidjpmaaDoorW.PrintWords Go.Proofs.YtijmdlhcidjpmaaDoorW.PrintLast Go.Proofs.YtijmdlhcidjpmaaDoorW.PrintMore
attribute [local go_sem] max2_int min2_int max_two min_two max_three min_three max_four min_four
set_option linter.unusedVariables false
set_option linter.unusedSimpArgs false
end Go.Proofs.YtijmdlhcidjpmaaDoor.P

namespace Go.Proofs.YtijmdlhcidjpmaaDoor.P
open Go.RowKit Go.Proofs.YtijmdlhcidjpmaaDoorW.PrintWords Go.Proofs.YtijmdlhcidjpmaaDoorW.PrintLast Go.Proofs.YtijmdlhcidjpmaaDoorW.PrintMore
attribute [local go_sem] max2_int min2_int max_two min_two max_three min_three max_four min_four
set_option linter.unusedVariables false
set_option linter.unusedSimpArgs false
theorem bt_list (s : ByteArray) (i : Nat) (h : i < s.size) : ∃ b r, s.data.toList.drop i = b :: r ∧ s.data.toList.drop (i + 1) = r ∧ bt s (i : Int) = (b.toNat : Int) := by
 have hl : i < s.data.toList.length := by rw [← size_data]; exact h
 refine ⟨s.data.toList[i], s.data.toList.drop (i + 1), List.drop_eq_getElem_cons hl, rfl, ?_⟩
 unfold bt
 rw [dif_pos (by simpa using h)]
 rfl
def digV (acc : Nat) (l : List UInt8) : Nat := l.foldl (fun a b => a * 10 + (b.toNat - 48)) acc
def isDig (b : UInt8) : Bool := decide (48 ≤ b.toNat ∧ b.toNat ≤ 57)
def numB (l : List UInt8) : Option Int := if (1 ≤ l.length ∧ l.length ≤ 9) ∧ l.all isDig = true ∧ (l.head? = some 48 → l.length = 1) then some (digV 0 l : Nat) else none
theorem digV_ge : ∀ (l : List UInt8) (acc : Nat), acc ≤ digV acc l
 | [], acc => Nat.le_refl _
 | b :: l, acc => Nat.le_trans (by omega) (digV_ge l (acc * 10 + (b.toNat - 48)))
theorem spec_l01Number_ev (s : ByteArray) (hs : s.size ≤ 1048576) : Ev (fun k => spec_l01Number.f k s) (((numB s.data.toList).getD 0, (numB s.data.toList).isSome)) := by
 have hsz := size_data s
 have bad : Ev (fun k => spec_l01Number.j0 k s true) (0, false) := Ev.step (f := fun _ => some (0, false)) (fun k => by simp only [spec_l01Number.j0, if_true]) (Ev.now _)
 unfold spec_l01Number.f
 by_cases c1 : (s.size : Int) < 1
 ·rw [show numB s.data.toList = none from if_neg (by omega)]
  simp only [if_pos c1]
  exact bad
 simp only [if_neg c1]
 by_cases c2 : (s.size : Int) > 9
 ·rw [show numB s.data.toList = none from if_neg (by omega)]
  simp only [if_pos c2]
  exact bad
 simp only [if_neg c2, if_pos (show 0 < (s.size : Int) by omega)]
 have key : ∀ d i acc : Nat, i + d = s.size → acc < 10 ^ i → Ev (fun k => spec_l01Number.l0 k s (acc : Int) (i : Int)) (if (s.data.toList.drop i).all isDig = true then (((digV acc (s.data.toList.drop i) : Nat) : Int), true) else (0, false)) := by
  intro d
  induction d with
  | zero =>
   intro i acc hi ha
   have hend : s.data.toList.drop i = [] := List.drop_eq_nil_of_le (by omega)
   rw [hend]
   refine Ev.step (f := fun _ => some ((acc : Int), true)) (fun k => ?_) (Ev.now _)
   simp only [spec_l01Number.l0]
   rw [if_neg (by omega)]
  | succ d ih =>
   intro i acc hi ha
   obtain ⟨b, r, h1, h2, h3⟩ := bt_list s i (by omega)
   have hp : 10 ^ (i + 1) ≤ 10 ^ 9 := Nat.pow_le_pow_right (by decide) (by omega)
   rw [Nat.pow_succ] at hp
   by_cases hb : isDig b = true
   ·have hb2 : 48 ≤ b.toNat ∧ b.toNat ≤ 57 := by simpa [isDig] using hb
    have hn := ih (i + 1) (acc * 10 + (b.toNat - 48)) (by omega) (by rw [Nat.pow_succ]; omega)
    rw [h2] at hn
    rw [h1]
    simp only [List.all_cons, hb, Bool.true_and]
    refine Ev.step (fun k => ?_) hn
    simp only [spec_l01Number.l0]
    rw [if_pos (by omega), if_pos (by omega), h3, if_neg (by omega), if_neg (by omega), wr (x := (acc : Int) * 10) (by omega) (by omega), wr (x := (i : Int) + 1) (by omega) (by omega), wr (by omega) (by omega)]
    congr 1
    omega
   ·rw [h1]
    have hb' : isDig b = false := by simpa using hb
    simp only [List.all_cons, hb', Bool.false_and, Bool.false_eq_true, if_false]
    have hb2 : ¬ (48 ≤ b.toNat ∧ b.toNat ≤ 57) := by simpa [isDig] using hb
    refine Ev.step (f := fun _ => some (0, false)) (fun k => ?_) (Ev.now _)
    simp only [spec_l01Number.l0]
    rw [if_pos (by omega), if_pos (by omega), h3]
    by_cases h48 : (b.toNat : Int) < 48
    ·rw [if_pos h48]
    ·rw [if_neg h48, if_pos (by omega)]
 have go := key s.size 0 0 (by omega) (by decide)
 rw [List.drop_zero] at go
 obtain ⟨b, r, h1, h2, h3⟩ := bt_list s 0 (by omega)
 rw [List.drop_zero] at h1
 have h3' : bt s 0 = (b.toNat : Int) := h3
 have run : Ev (fun k => spec_l01Number.j0 k s false) (if s.data.toList.all isDig = true then (((digV 0 s.data.toList : Nat) : Int), true) else (0, false)) := Ev.step (f := fun k => spec_l01Number.l0 k s 0 0) (fun k => by simp only [spec_l01Number.j0]; rw [if_neg (by decide)]) go
 have good : (s.data.toList.head? = some 48 → s.data.toList.length = 1) → Ev (fun k => spec_l01Number.j0 k s false) (((numB s.data.toList).getD 0, (numB s.data.toList).isSome)) := by
  intro hz
  by_cases ha : s.data.toList.all isDig = true
  ·rw [if_pos ha] at run
   rw [show numB s.data.toList = some ((digV 0 s.data.toList : Nat) : Int) from if_pos ⟨⟨by omega, by omega⟩, ha, hz⟩]
   exact run
  ·rw [if_neg ha] at run
   rw [show numB s.data.toList = none from if_neg (fun h => ha h.2.1)]
   exact run
 by_cases c3 : b = 48
 ·have e : bt s 0 = 48 := by rw [h3', c3]; rfl
  simp only [if_pos e]
  by_cases c4 : (s.size : Int) > 1
  ·rw [decide_eq_true c4, show numB s.data.toList = none from if_neg (fun h => by have := h.2.2 (by rw [h1, c3]; rfl); omega)]
   exact bad
  ·rw [decide_eq_false c4]
   exact good (fun _ => by omega)
 ·have e : ¬ bt s 0 = 48 := by
   rw [h3']
   intro h
   exact c3 (UInt8.toNat_inj.mp (by have : (48 : UInt8).toNat = 48 := rfl; omega))
  simp only [if_neg e]
  exact good (fun h => by rw [h1] at h; exact absurd (Option.some.inj h) c3)
end Go.Proofs.YtijmdlhcidjpmaaDoor.P

namespace Go.Proofs.YtijmdlhcidjpmaaDoor.P
open Go.RowKit Go.Proofs.YtijmdlhcidjpmaaDoorW.PrintWords Go.Proofs.YtijmdlhcidjpmaaDoorW.PrintLast Go.Proofs.YtijmdlhcidjpmaaDoorW.PrintMore
attribute [local go_sem] max2_int min2_int max_two min_two max_three min_three max_four min_four
set_option linter.unusedVariables false
set_option linter.unusedSimpArgs false
end Go.Proofs.YtijmdlhcidjpmaaDoor.P

namespace Go.Proofs.YtijmdlhcidjpmaaDoor.P
open Go.RowKit Go.Proofs.YtijmdlhcidjpmaaDoorW.PrintWords Go.Proofs.YtijmdlhcidjpmaaDoorW.PrintLast Go.Proofs.YtijmdlhcidjpmaaDoorW.PrintMore
attribute [local go_sem] max2_int min2_int max_two min_two max_three min_three max_four min_four
set_option linter.unusedVariables false
set_option linter.unusedSimpArgs false
end Go.Proofs.YtijmdlhcidjpmaaDoor.P

namespace Go.Proofs.YtijmdlhcidjpmaaDoor.P
open Go.RowKit Go.Proofs.YtijmdlhcidjpmaaDoorW.PrintWords Go.Proofs.YtijmdlhcidjpmaaDoorW.PrintLast Go.Proofs.YtijmdlhcidjpmaaDoorW.PrintMore
attribute [local go_sem] max2_int min2_int max_two min_two max_three min_three max_four min_four
set_option linter.unusedVariables false
set_option linter.unusedSimpArgs false
end Go.Proofs.YtijmdlhcidjpmaaDoor.P

namespace Go.Proofs.YtijmdlhcidjpmaaDoor.P
open Go.RowKit Go.Proofs.YtijmdlhcidjpmaaDoorW.PrintWords Go.Proofs.YtijmdlhcidjpmaaDoorW.PrintLast Go.Proofs.YtijmdlhcidjpmaaDoorW.PrintMore
attribute [local go_sem] max2_int min2_int max_two min_two max_three min_three max_four min_four
set_option linter.unusedVariables false
set_option linter.unusedSimpArgs false
end Go.Proofs.YtijmdlhcidjpmaaDoor.P

namespace Go.Proofs.YtijmdlhcidjpmaaDoor.P
open Go.RowKit Go.Proofs.YtijmdlhcidjpmaaDoorW.PrintWords Go.Proofs.YtijmdlhcidjpmaaDoorW.PrintLast Go.Proofs.YtijmdlhcidjpmaaDoorW.PrintMore
attribute [local go_sem] max2_int min2_int max_two min_two max_three min_three max_four min_four
set_option linter.unusedVariables false
set_option linter.unusedSimpArgs false
end Go.Proofs.YtijmdlhcidjpmaaDoor.P

namespace Go.Proofs.YtijmdlhcidjpmaaDoor.P
open Go.RowKit Go.Proofs.YtijmdlhcidjpmaaDoorW.PrintWords Go.Proofs.YtijmdlhcidjpmaaDoorW.PrintLast Go.Proofs.YtijmdlhcidjpmaaDoorW.PrintMore
attribute [local go_sem] max2_int min2_int max_two min_two max_three min_three max_four min_four
set_option linter.unusedVariables false
set_option linter.unusedSimpArgs false
end Go.Proofs.YtijmdlhcidjpmaaDoor.P

namespace Go.Proofs.YtijmdlhcidjpmaaDoor.P
open Go.RowKit Go.Proofs.YtijmdlhcidjpmaaDoorW.PrintWords Go.Proofs.YtijmdlhcidjpmaaDoorW.PrintLast Go.Proofs.YtijmdlhcidjpmaaDoorW.PrintMore
attribute [local go_sem] max2_int min2_int max_two min_two max_three min_three max_four min_four
set_option linter.unusedVariables false
set_option linter.unusedSimpArgs false
end Go.Proofs.YtijmdlhcidjpmaaDoor.P

namespace Go.Proofs.YtijmdlhcidjpmaaDoor.P
open Go.RowKit Go.Proofs.YtijmdlhcidjpmaaDoorW.PrintWords Go.Proofs.YtijmdlhcidjpmaaDoorW.PrintLast Go.Proofs.YtijmdlhcidjpmaaDoorW.PrintMore
attribute [local go_sem] max2_int min2_int max_two min_two max_three min_three max_four min_four
set_option linter.unusedVariables false
set_option linter.unusedSimpArgs false
end Go.Proofs.YtijmdlhcidjpmaaDoor.P

namespace Go.Proofs.YtijmdlhcidjpmaaDoor.P
open Go.RowKit Go.Proofs.YtijmdlhcidjpmaaDoorW.PrintWords Go.Proofs.YtijmdlhcidjpmaaDoorW.PrintLast Go.Proofs.YtijmdlhcidjpmaaDoorW.PrintMore
attribute [local go_sem] max2_int min2_int max_two min_two max_three min_three max_four min_four
set_option linter.unusedVariables false
set_option linter.unusedSimpArgs false
end Go.Proofs.YtijmdlhcidjpmaaDoor.P

namespace Go.Proofs.YtijmdlhcidjpmaaDoor.P
open Go.RowKit Go.Proofs.YtijmdlhcidjpmaaDoorW.PrintWords Go.Proofs.YtijmdlhcidjpmaaDoorW.PrintLast Go.Proofs.YtijmdlhcidjpmaaDoorW.PrintMore
attribute [local go_sem] max2_int min2_int max_two min_two max_three min_three max_four min_four
set_option linter.unusedVariables false
set_option linter.unusedSimpArgs false
end Go.Proofs.YtijmdlhcidjpmaaDoor.P

namespace Go.Proofs.YtijmdlhcidjpmaaDoor.P
open Go.RowKit Go.Proofs.YtijmdlhcidjpmaaDoorW.PrintWords Go.Proofs.YtijmdlhcidjpmaaDoorW.PrintLast Go.Proofs.YtijmdlhcidjpmaaDoorW.PrintMore
attribute [local go_sem] max2_int min2_int max_two min_two max_three min_three max_four min_four
set_option linter.unusedVariables false
set_option linter.unusedSimpArgs false
end Go.Proofs.YtijmdlhcidjpmaaDoor.P

namespace Go.Proofs.YtijmdlhcidjpmaaDoor.P
open Go.RowKit Go.Proofs.YtijmdlhcidjpmaaDoorW.PrintWords Go.Proofs.YtijmdlhcidjpmaaDoorW.PrintLast Go.Proofs.YtijmdlhcidjpmaaDoorW.PrintMore
attribute [local go_sem] max2_int min2_int max_two min_two max_three min_three max_four min_four
set_option linter.unusedVariables false
set_option linter.unusedSimpArgs false
end Go.Proofs.YtijmdlhcidjpmaaDoor.P

namespace Go.Proofs.YtijmdlhcidjpmaaDoor.P
open Go.RowKit Go.Proofs.YtijmdlhcidjpmaaDoorW.PrintWords Go.Proofs.YtijmdlhcidjpmaaDoorW.PrintLast Go.Proofs.YtijmdlhcidjpmaaDoorW.PrintMore
attribute [local go_sem] max2_int min2_int max_two min_two max_three min_three max_four min_four
set_option linter.unusedVariables false
set_option linter.unusedSimpArgs false
end Go.Proofs.YtijmdlhcidjpmaaDoor.P

namespace Go.Proofs.YtijmdlhcidjpmaaDoor.P
open Go.RowKit Go.Proofs.YtijmdlhcidjpmaaDoorW.PrintWords Go.Proofs.YtijmdlhcidjpmaaDoorW.PrintLast Go.Proofs.YtijmdlhcidjpmaaDoorW.PrintMore
attribute [local go_sem] max2_int min2_int max_two min_two max_three min_three max_four min_four
set_option linter.unusedVariables false
set_option linter.unusedSimpArgs false
end Go.Proofs.YtijmdlhcidjpmaaDoor.P

namespace Go.Proofs.YtijmdlhcidjpmaaDoor.P
open Go.RowKit Go.Proofs.YtijmdlhcidjpmaaDoorW.PrintWords Go.Proofs.YtijmdlhcidjpmaaDoorW.PrintLast Go.Proofs.YtijmdlhcidjpmaaDoorW.PrintMore
attribute [local go_sem] max2_int min2_int max_two min_two max_three min_three max_four min_four
set_option linter.unusedVariables false
set_option linter.unusedSimpArgs false
end Go.Proofs.YtijmdlhcidjpmaaDoor.P

namespace Go.Proofs.YtijmdlhcidjpmaaDoor.P
open Go.RowKit Go.Proofs.YtijmdlhcidjpmaaDoorW.PrintWords Go.Proofs.YtijmdlhcidjpmaaDoorW.PrintLast Go.Proofs.YtijmdlhcidjpmaaDoorW.PrintMore
attribute [local go_sem] max2_int min2_int max_two min_two max_three min_three max_four min_four
set_option linter.unusedVariables false
set_option linter.unusedSimpArgs false
end Go.Proofs.YtijmdlhcidjpmaaDoor.P

namespace Go.Proofs.YtijmdlhcidjpmaaDoor.P
open Go.RowKit Go.Proofs.YtijmdlhcidjpmaaDoorW.PrintWords Go.Proofs.YtijmdlhcidjpmaaDoorW.PrintLast Go.Proofs.YtijmdlhcidjpmaaDoorW.PrintMore
attribute [local go_sem] max2_int min2_int max_two min_two max_three min_three max_four min_four
set_option linter.unusedVariables false
set_option linter.unusedSimpArgs false
end Go.Proofs.YtijmdlhcidjpmaaDoor.P

namespace Go.Proofs.YtijmdlhcidjpmaaDoor.P
open Go.RowKit Go.Proofs.YtijmdlhcidjpmaaDoorW.PrintWords Go.Proofs.YtijmdlhcidjpmaaDoorW.PrintLast Go.Proofs.YtijmdlhcidjpmaaDoorW.PrintMore
attribute [local go_sem] max2_int min2_int max_two min_two max_three min_three max_four min_four
set_option linter.unusedVariables false
set_option linter.unusedSimpArgs false
end Go.Proofs.YtijmdlhcidjpmaaDoor.P

namespace Go.Proofs.YtijmdlhcidjpmaaDoor.P
open Go.RowKit Go.Proofs.YtijmdlhcidjpmaaDoorW.PrintWords Go.Proofs.YtijmdlhcidjpmaaDoorW.PrintLast Go.Proofs.YtijmdlhcidjpmaaDoorW.PrintMore
attribute [local go_sem] max2_int min2_int max_two min_two max_three min_three max_four min_four
set_option linter.unusedVariables false
set_option linter.unusedSimpArgs false
end Go.Proofs.YtijmdlhcidjpmaaDoor.P

namespace Go.Proofs.YtijmdlhcidjpmaaDoor.P
open Go.RowKit Go.Proofs.YtijmdlhcidjpmaaDoorW.PrintWords Go.Proofs.YtijmdlhcidjpmaaDoorW.PrintLast Go.Proofs.YtijmdlhcidjpmaaDoorW.PrintMore
attribute [local go_sem] max2_int min2_int max_two min_two max_three min_three max_four min_four
set_option linter.unusedVariables false
set_option linter.unusedSimpArgs false
end Go.Proofs.YtijmdlhcidjpmaaDoor.P

namespace Go.Proofs.YtijmdlhcidjpmaaDoor.P
open Go.RowKit Go.Proofs.YtijmdlhcidjpmaaDoorW.PrintWords Go.Proofs.YtijmdlhcidjpmaaDoorW.PrintLast Go.Proofs.YtijmdlhcidjpmaaDoorW.PrintMore
attribute [local go_sem] max2_int min2_int max_two min_two max_three min_three max_four min_four
set_option linter.unusedVariables false
set_option linter.unusedSimpArgs false
end Go.Proofs.YtijmdlhcidjpmaaDoor.P

namespace Go.Proofs.YtijmdlhcidjpmaaDoor.P
open Go.RowKit Go.Proofs.YtijmdlhcidjpmaaDoorW.PrintWords Go.Proofs.YtijmdlhcidjpmaaDoorW.PrintLast Go.Proofs.YtijmdlhcidjpmaaDoorW.PrintMore
attribute [local go_sem] max2_int min2_int max_two min_two max_three min_three max_four min_four
set_option linter.unusedVariables false
set_option linter.unusedSimpArgs false
theorem toList_mkB (l : List UInt8) : (mkB l).toList = l := by rw [ByteArray.toList_eq, mkB_data]
end Go.Proofs.YtijmdlhcidjpmaaDoor.P

namespace Go.Proofs.YtijmdlhcidjpmaaDoor.P
open Go.RowKit Go.Proofs.YtijmdlhcidjpmaaDoorW.PrintWords Go.Proofs.YtijmdlhcidjpmaaDoorW.PrintLast Go.Proofs.YtijmdlhcidjpmaaDoorW.PrintMore
attribute [local go_sem] max2_int min2_int max_two min_two max_three min_three max_four min_four
set_option linter.unusedVariables false
set_option linter.unusedSimpArgs false
def dig (n : Int) : List UInt8 := (decS n).data.toList
theorem dig_all : ∀ n : Fin 100, numB (dig (n.val : Int)) = some (n.val : Int) ∧ (dig (n.val : Int)).all isDig = true ∧ piB (decS (n.val : Int)) = ((n.val : Int), false) ∧ Go.Lib.itoa (n.val : Int) = dig (n.val : Int) := by decide +kernel
theorem dig_facts {n : Int} (h0 : 0 ≤ n) (h1 : n < 100) : numB (dig n) = some n ∧ (dig n).all isDig = true ∧ piB (decS n) = (n, false) ∧ Go.Lib.itoa n = dig n := by
 have := dig_all ⟨n.toNat, by omega⟩
 rwa [show ((n.toNat : Nat) : Int) = n by omega] at this
theorem dig_one : ∀ b : Fin 10, [UInt8.ofNat (48 + b.val)] = dig (b.val : Int) := by decide +kernel
theorem dig_two : ∀ a b : Fin 10, a.val ≠ 0 → [UInt8.ofNat (48 + a.val), UInt8.ofNat (48 + b.val)] = dig ((a.val * 10 + b.val : Nat) : Int) := by decide +kernel
theorem isDig_of {b : UInt8} (h : isDig b = true) : ∃ n, n < 10 ∧ b.toNat = 48 + n ∧ b = UInt8.ofNat (48 + n) := by
 have : 48 ≤ b.toNat ∧ b.toNat ≤ 57 := by simpa [isDig] using h
 refine ⟨b.toNat - 48, by omega, by omega, ?_⟩
 rw [show 48 + (b.toNat - 48) = b.toNat by omega]
 simp
theorem numB_dig {l : List UInt8} {v : Int} (h : numB l = some v) (hv : v < 100) : l = dig v ∧ 0 ≤ v := by
 unfold numB at h
 split at h
 ·rename_i c
  obtain ⟨⟨c1, c2⟩, c3, c4⟩ := c
  have e := Option.some.inj h
  refine ⟨?_, by omega⟩
  subst e
  rcases l with _ | ⟨a, _ | ⟨b, _ | ⟨d, r⟩⟩⟩
  ·simp at c1
  ·
   simp only [List.all_cons, Bool.and_eq_true] at c3
   obtain ⟨n, h1, h2, h3⟩ := isDig_of c3.1
   have := dig_one ⟨n, h1⟩
   simp only at this
   rw [← h3] at this
   have e9 : digV 0 [a] = n := by simp [digV, h2]
   rw [e9]
   exact this
  ·
   simp only [List.all_cons, Bool.and_eq_true] at c3
   obtain ⟨n, h1, h2, h3⟩ := isDig_of c3.1
   obtain ⟨m, k1, k2, k3⟩ := isDig_of c3.2.1
   have hn : n ≠ 0 := by
    intro e0
    subst e0
    have := c4 (by rw [h3]; rfl)
    simp at this
   have := dig_two ⟨n, h1⟩ ⟨m, k1⟩ hn
   simp only at this
   rw [← h3, ← k3] at this
   have e9 : digV 0 [a, b] = n * 10 + m := by simp [digV, h2, k2]
   rw [e9]
   exact this
  ·
   exfalso
   simp only [List.all_cons, Bool.and_eq_true] at c3
   obtain ⟨n, h1, h2, h3⟩ := isDig_of c3.1
   have hn : n ≠ 0 := by
    intro e0
    subst e0
    have := c4 (by rw [h3]; rfl)
    simp at this
   have := digV_ge r (((0 * 10 + (a.toNat - 48)) * 10 + (b.toNat - 48)) * 10 + (d.toNat - 48))
   have e2 : digV 0 (a :: b :: d :: r) = digV (((0 * 10 + (a.toNat - 48)) * 10 + (b.toNat - 48)) * 10 + (d.toNat - 48)) r := rfl
   rw [e2] at hv
   omega
 ·cases h
theorem dig_no {c : UInt8} (hc : isDig c = false) {n : Int} (h0 : 0 ≤ n) (h1 : n < 100) : c ∉ dig n := by
 intro m
 have := List.all_eq_true.mp (dig_facts h0 h1).2.1 c m
 rw [hc] at this
 cases this
end Go.Proofs.YtijmdlhcidjpmaaDoor.P

namespace Go.Proofs.YtijmdlhcidjpmaaDoor.P
open Go.RowKit Go.Proofs.YtijmdlhcidjpmaaDoorW.PrintWords Go.Proofs.YtijmdlhcidjpmaaDoorW.PrintLast Go.Proofs.YtijmdlhcidjpmaaDoorW.PrintMore
attribute [local go_sem] max2_int min2_int max_two min_two max_three min_three max_four min_four
set_option linter.unusedVariables false
set_option linter.unusedSimpArgs false
def tl (x : S46) : List UInt8 := (txT x).data.toList
def kidsL (r : List S46) : List UInt8 := r.flatMap fun z => 44 :: 32 :: tl z
theorem tl_leaf {x : S46} (h : x.f2 = []) : tl x = [UInt8.ofNat ((wrap64 (65 + x.f0)) % 256).toNat] := by
 unfold tl
 rw [txT_parts, h]
 simp [strOfNums]
theorem joinTail_kids (r : List S46) : Go.Lib.joinTail [44, 32] (r.map fun z => (txT z).data.toList) = kidsL r := by
 induction r with
 | nil => rfl
 | cons z r ih =>
  have e : kidsL (z :: r) = (44 :: 32 :: tl z) ++ kidsL r := rfl
  rw [e, ← ih]
  simp [Go.Lib.joinTail, tl]
theorem tl_inner {x z : S46} {r : List S46} (h : x.f2 = z :: r) : tl x = dig x.f1 ++ 40 :: (tl z ++ kidsL r ++ [41]) := by
 have e : tl x = (decS x.f1).data.toList ++ [40] ++ (tl z ++ kidsL r) ++ [41] := by
  unfold tl
  rw [txT_parts, h]
  simp only [List.isEmpty_cons, Bool.false_eq_true, if_false]
  rw [app_list, app_list, app_list, joinB_list, txL_map, List.map_map, List.map_cons, Go.Lib.join_cons]
  have e2 := joinTail_kids r
  rw [← e2]
  rfl
 rw [e]
 simp [dig]
theorem cut_cases (c : UInt8) (L : List UInt8) : Go.Lib.cut L [c] = (L, [], false) ∨ ∃ w t, L = w ++ c :: t ∧ c ∉ w ∧ Go.Lib.cut L [c] = (w, t, true) := by
 have key : ∀ l : List UInt8, (c ∉ l ∧ Go.Lib.indexByte l c = -1) ∨ ∃ w t, l = w ++ c :: t ∧ c ∉ w ∧ Go.Lib.indexByte l c = (w.length : Int) := by
  intro l
  induction l with
  | nil => exact Or.inl ⟨by simp, rfl⟩
  | cons b bs ih2 =>
   by_cases hb : b = c
   ·subst hb
    exact Or.inr ⟨[], bs, rfl, by simp, by simp [Go.Lib.indexByte]⟩
   ·rcases ih2 with ⟨h1, h2⟩ | ⟨w, t, h1, h2, h3⟩
    ·refine Or.inl ⟨fun m => ?_, ?_⟩
     ·rcases List.mem_cons.mp m with rfl | m
      ·exact hb rfl
      ·exact h1 m
     ·simp [Go.Lib.indexByte, hb, h2]
    ·refine Or.inr ⟨b :: w, t, by rw [h1]; rfl, fun m => ?_, ?_⟩
     ·rcases List.mem_cons.mp m with rfl | m
      ·exact hb rfl
      ·exact h2 m
     ·simp only [Go.Lib.indexByte, h3, List.length_cons]
      have e1 : (b == c) = false := by simpa using hb
      rw [e1]
      simp only [Bool.false_eq_true, if_false]
      rw [if_neg (by simp)]
      push_cast
      rfl
 rcases key L with ⟨h1, h2⟩ | ⟨w, t, h1, h2, h3⟩
 ·refine Or.inl ?_
  unfold Go.Lib.cut
  rw [Go.Lib.index_one, h2, if_neg (by decide)]
 ·refine Or.inr ⟨w, t, h1, h2, ?_⟩
  unfold Go.Lib.cut
  rw [Go.Lib.index_one, h3, if_pos (by omega)]
  simp only [Int.toNat_natCast, List.length_singleton]
  rw [h1]
  simp [List.drop_append]
theorem app_one (c : UInt8) : ∀ (w t w' t' : List UInt8), c ∉ w → c ∉ w' → w ++ c :: t = w' ++ c :: t' → w = w' ∧ t = t'
 | [], t, [], t', _, _, e => ⟨rfl, (List.cons.inj e).2⟩
 | [], t, b :: w', t', _, h', e => absurd (by rw [(List.cons.inj e).1]; exact List.mem_cons_self ..) h'
 | b :: w, t, [], t', h, _, e => absurd (by rw [(List.cons.inj e).1]; exact List.mem_cons_self ..) h
 | b :: w, t, b' :: w', t', h, h', e => by
  obtain ⟨e1, e2⟩ := List.cons.inj e
  obtain ⟨e3, e4⟩ := app_one c w t w' t' (fun m => h (List.mem_cons_of_mem _ m)) (fun m => h' (List.mem_cons_of_mem _ m)) e2
  exact ⟨by rw [e1, e3], e4⟩
theorem cut_hit {c : UInt8} {w t : List UInt8} (h : c ∉ w) : Go.Lib.cut (w ++ c :: t) [c] = (w, t, true) := by
 rcases cut_cases c (w ++ c :: t) with h1 | ⟨w', t', e, h2, h3⟩
 ·exfalso
  have hc : c ∈ w ++ c :: t := List.mem_append_right _ (List.mem_cons_self ..)
  unfold Go.Lib.cut at h1
  split at h1
  ·have := congrArg (fun p => p.2.2) h1
   cases this
  ·rename_i hn
   rw [Go.Lib.index_one] at hn
   have : ∀ l : List UInt8, c ∈ l → 0 ≤ Go.Lib.indexByte l c := by
    intro l
    induction l with
    | nil => intro m; cases m
    | cons b bs ih =>
     intro m
     by_cases hb : b = c
     ·subst hb; simp [Go.Lib.indexByte]
     ·rcases List.mem_cons.mp m with m | m
      ·exact absurd m.symm hb
      ·have := ih m
       have e1 : (b == c) = false := by simpa using hb
       simp only [Go.Lib.indexByte]
       rw [e1]
       simp only [Bool.false_eq_true, if_false]
       rw [if_neg (by intro h8; simp at h8; omega)]
       omega
   exact hn (this _ hc)
 ·obtain ⟨e1, e2⟩ := app_one c w t w' t' h h2 e
  rw [h3, e1, e2]
theorem cut_f (L : List UInt8) (h : L.length ≤ 1048576) : strings_Cut.f (mkB L) (⟨#[40]⟩ : ByteArray) = some (mkB (Go.Lib.cut L [40]).1, mkB (Go.Lib.cut L [40]).2.1, (Go.Lib.cut L [40]).2.2) := by
 unfold strings_Cut.f cutB
 rw [if_pos (by rw [mkB_size]; exact h)]
 rfl
theorem pre_f (L p : List UInt8) : strings_CutPrefix.f (mkB L) (mkB p) = some (if L.take p.length = p then (mkB (L.drop p.length), true) else (mkB L, false)) := by
 unfold strings_CutPrefix.f stringslite_CutPrefix.f stringslite_HasPrefix.f
 have e1 : ((mkB p).size : Int) = (p.length : Int) := by rw [mkB_size]
 have e2 : ((mkB L).size : Int) = (L.length : Int) := by rw [mkB_size]
 by_cases c : L.take p.length = p
 ·have hl : p.length ≤ L.length := by
   have := congrArg List.length c
   rw [List.length_take] at this
   omega
  have e3 : ((mkB L).extract 0 p.length).toList = p := by
   rw [ByteArray.toList_eq, Go.Lib.extract_data, mkB_data]
   simpa using c
  have e4 : (mkB L).extract p.length (mkB L).size = mkB (L.drop p.length) := bytes_ext (by rw [Go.Lib.extract_data, mkB_data, mkB_data, mkB_size, ← List.length_drop, List.take_length])
  rw [if_pos c, e1, e2, if_pos (by omega), if_pos (by omega), if_pos (by omega)]
  simp only [Option.bind_some, Int.toNat_natCast, e3, toList_mkB, beq_self_eq_true, if_true]
  rw [if_pos (by omega), if_pos (by omega), e4]
  rfl
 ·rw [if_neg c, e1, e2]
  by_cases hl : p.length ≤ L.length
  ·have e3 : ((mkB L).extract 0 p.length).toList = L.take p.length := by
    rw [ByteArray.toList_eq, Go.Lib.extract_data, mkB_data]
    simp
   rw [if_pos (by omega), if_pos (by omega), if_pos (by omega)]
   simp only [Option.bind_some, Int.toNat_natCast, e3, toList_mkB]
   rw [show (L.take p.length == p) = false by simpa using c]
   simp
  ·rw [if_neg (by omega)]
   simp
def rdRes : Option (S46 × List UInt8) → Int × Int × List S46 × ByteArray × Bool
 | none => (0, 0, [], mkB [], false)
 | some (x, rest) => (x.f0, x.f1, x.f2, mkB rest, true)
def rdFit (n m : Nat) : Option (S46 × List UInt8) → Prop
 | none => True
 | some (x, rest) => rest.length + mL x.f2 + 1 ≤ n + m
theorem bt_head (b : UInt8) (L : List UInt8) : bt (mkB (b :: L)) 0 = (b.toNat : Int) := by
 obtain ⟨b', r, h1, _, h3⟩ := bt_list (mkB (b :: L)) 0 (by rw [mkB_size]; simp)
 rw [mkB_data, List.drop_zero] at h1
 rw [← (List.cons.inj h1).1] at h3
 exact h3
theorem extract_one (b : UInt8) (L : List UInt8) : (mkB (b :: L)).extract 1 (mkB (b :: L)).size = mkB L := bytes_ext (by rw [Go.Lib.extract_data, mkB_data, mkB_data, mkB_size]; simp)
theorem readGate_ends : ∀ n : Nat, n ≤ 4000 →
  (∀ L : List UInt8, L.length ≤ n → ∃ r, Ev (fun k => impl_readGate.f k (mkB L)) (rdRes r) ∧ rdFit L.length 0 r) ∧
  (∀ (L : List UInt8) (c : Int) (acc : List S46), L.length ≤ n → acc.length + L.length ≤ 8000 → ∃ r, Ev (fun k => impl_readGate.l0 k (mkB L) (-1) c acc) (rdRes r) ∧ rdFit L.length (mL acc + 1) r) := by
 intro n
 induction n with
 | zero =>
  intro _
  have hf : ∀ L : List UInt8, L.length ≤ 0 → ∃ r, Ev (fun k => impl_readGate.f k (mkB L)) (rdRes r) ∧ rdFit L.length 0 r := by
   intro L hL
   obtain rfl : L = [] := List.length_eq_zero_iff.mp (by omega)
   refine ⟨none, Ev.step (f := fun _ => some (0, 0, ([] : List S46), (⟨#[]⟩ : ByteArray), false)) (fun k => ?_) (Ev.now _), trivial⟩
   simp only [impl_readGate.f]
   rw [if_pos (toList_mkB [])]
  refine ⟨hf, fun L c acc hL hacc => ?_⟩
  obtain rfl : L = [] := List.length_eq_zero_iff.mp (by omega)
  refine ⟨none, Ev.step (f := fun k => (impl_readGate.f k (mkB [])).bind fun _ => some (0, 0, ([] : List S46), (⟨#[]⟩ : ByteArray), false)) (fun k => ?_) (Ev.bind (a := (0, 0, ([] : List S46), mkB [], false)) ?_ (Ev.now _)), trivial⟩
  ·simp only [impl_readGate.l0]
   cases k with
   | zero => simp [impl_readGate.f]
   | succ k =>
    simp only [impl_readGate.f]
    rw [if_pos (toList_mkB [])]
    simp
  ·refine Ev.step (f := fun _ => some (0, 0, ([] : List S46), (⟨#[]⟩ : ByteArray), false)) (fun k => ?_) (Ev.now _)
   simp only [impl_readGate.f]
   rw [if_pos (toList_mkB [])]
 | succ n ih =>
  intro hn
  obtain ⟨ihf, ihl⟩ := ih (by omega)
  have hf : ∀ L : List UInt8, L.length ≤ n + 1 → ∃ r, Ev (fun k => impl_readGate.f k (mkB L)) (rdRes r) ∧ rdFit L.length 0 r := by
   intro L hL
   cases L with
   | nil => exact ihf [] (by simp)
   | cons b L =>
    rw [List.length_cons] at hL
    have hb := b.toNat_lt
    have h0 : ¬ ((mkB (b :: L)).toList = []) := by rw [toList_mkB]; simp
    have hs : 0 < ((mkB (b :: L)).size : Int) := by rw [mkB_size, List.length_cons]; omega
    have other : ∃ r, Ev (fun k => impl_readGate.j0 k (mkB (b :: L)) false) (rdRes r) ∧ rdFit (b :: L).length 0 r := by
     have hcut := cut_f (b :: L) (by rw [List.length_cons]; omega)
     have stop : ∀ (u : ByteArray) (v : Int), Ev (fun k => impl_readGate.j1 k u v true) (rdRes none) := fun u v => Ev.step (f := fun _ => some (0, 0, ([] : List S46), (⟨#[]⟩ : ByteArray), false)) (fun k => by simp only [impl_readGate.j1, if_true]) (Ev.now _)
     have hpi : ∀ w : List UInt8, w.length ≤ 1048576 → strconv_ParseInt_70.f (mkB w) 10 64 = some (piB (mkB w)) := fun w h => if_pos ⟨⟨rfl, rfl⟩, by rw [mkB_size]; exact h⟩
     rcases cut_cases 40 (b :: L) with h1 | ⟨w, t, e, h2, h3⟩
     ·rw [h1] at hcut
      refine ⟨none, Ev.step (f := fun k => impl_readGate.j1 k (mkB []) (piB (mkB (b :: L))).1 true) (fun k => ?_) (stop _ _), trivial⟩
      simp only [impl_readGate.j0, Bool.false_eq_true, if_false]
      rw [hcut]
      simp only [Option.bind_some]
      rw [hpi (b :: L) (by rw [List.length_cons]; omega)]
      simp
     ·rw [h3] at hcut
      have hlen := congrArg List.length e
      simp only [List.length_append, List.length_cons] at hlen
      have hstep : ∀ k, impl_readGate.j0 (k + 1) (mkB (b :: L)) false = impl_readGate.j1 k (mkB t) (piB (mkB w)).1 (piB (mkB w)).2 := fun k => by
       simp only [impl_readGate.j0, Bool.false_eq_true, if_false]
       rw [hcut]
       simp only [Option.bind_some]
       rw [hpi w (by omega)]
       simp
      cases hp : (piB (mkB w)).2 with
      | true => exact ⟨none, Ev.step (f := fun k => impl_readGate.j1 k (mkB t) (piB (mkB w)).1 true) (fun k => by rw [hstep, hp]) (stop _ _), trivial⟩
      | false =>
       obtain ⟨r, hr, hfit⟩ := ihl t (piB (mkB w)).1 [] (by omega) (by rw [List.length_nil]; omega)
       refine ⟨r, Ev.step (f := fun k => impl_readGate.j1 k (mkB t) (piB (mkB w)).1 false) (fun k => by rw [hstep, hp]) (Ev.step (f := fun k => impl_readGate.l0 k (mkB t) (-1) (piB (mkB w)).1 []) (fun k => by simp only [impl_readGate.j1, Bool.false_eq_true, if_false]) hr), ?_⟩
       cases r with
       | none => trivial
       | some p =>
        obtain ⟨x, rest⟩ := p
        simp only [rdFit, mL] at hfit ⊢
        rw [List.length_cons]
        omega
    by_cases h65 : (b.toNat : Int) ≥ 65
    ·by_cases h90 : (b.toNat : Int) ≤ 90
     ·refine ⟨some (⟨((b.toNat : Int) - 65) % 256, 0, []⟩, L), Ev.step (f := fun k => impl_readGate.j0 k (mkB (b :: L)) true) (fun k => ?_) (Ev.step (f := fun _ => some (((b.toNat : Int) - 65) % 256, 0, ([] : List S46), mkB L, true)) (fun k => ?_) (Ev.now _)), ?_⟩
      ·simp only [impl_readGate.f]
       rw [if_neg h0, if_pos hs, bt_head, if_pos h65, decide_eq_true h90]
      ·simp only [impl_readGate.j0, if_true]
       rw [if_pos hs, if_pos (by omega), bt_head, extract_one]
      ·simp only [rdFit, mL, List.length_cons]
       omega
     ·obtain ⟨r, hr, hfit⟩ := other
      refine ⟨r, Ev.step (f := fun k => impl_readGate.j0 k (mkB (b :: L)) false) (fun k => ?_) hr, hfit⟩
      simp only [impl_readGate.f]
      rw [if_neg h0, if_pos hs, bt_head, if_pos h65, decide_eq_false h90]
    ·obtain ⟨r, hr, hfit⟩ := other
     refine ⟨r, Ev.step (f := fun k => impl_readGate.j0 k (mkB (b :: L)) false) (fun k => ?_) hr, hfit⟩
     simp only [impl_readGate.f]
     rw [if_neg h0, if_pos hs, bt_head, if_neg h65]
  refine ⟨hf, fun L c acc hL hacc => ?_⟩
  obtain ⟨r, hr, hfit⟩ := hf L hL
  cases r with
  | none =>
   refine ⟨none, Ev.step (f := fun k => (impl_readGate.f k (mkB L)).bind fun bt394 => (if bt394.2.2.2.2 = true then (if acc.length < 3518437208883 then ((some (acc ++ [(⟨bt394.1, bt394.2.1, bt394.2.2.1⟩ : S46)] : List S46)).bind fun y402 => ((strings_CutPrefix.f bt394.2.2.2.1 (⟨#[41]⟩ : ByteArray)).bind fun bt405 => (if bt405.2 = true then (some (-1, c, y402, bt405.1, true)) else ((strings_CutPrefix.f bt394.2.2.2.1 (⟨#[44, 32]⟩ : ByteArray)).bind fun bt407 => (if bt407.2 = true then (impl_readGate.l0 k bt407.1 (-1) c y402) else (some (0, 0, ([] : List S46), (⟨#[]⟩ : ByteArray), false))))))) else (none)) else (some (0, 0, ([] : List S46), (⟨#[]⟩ : ByteArray), false)))) (fun k => by simp only [impl_readGate.l0]) (Ev.bind hr ?_), trivial⟩
   simp only [rdRes, Bool.false_eq_true, if_false]
   exact Ev.now _
  | some p =>
   obtain ⟨x, rest⟩ := p
   simp only [rdFit] at hfit
   have hsz : mL (acc ++ [(⟨x.f0, x.f1, x.f2⟩ : S46)]) = mL acc + 1 + mL x.f2 := by
    have : ∀ p q : List S46, mL (p ++ q) = mL p + mL q := by
     intro p q
     induction p with
     | nil => simp [mL]
     | cons u p ihp => rw [List.cons_append, mL_cons, mL_cons, ihp]; omega
    rw [this, mL_cons, mT_kids]
    simp only [mL]
    omega
   have key : ∃ r, Ev (fun k => (strings_CutPrefix.f (mkB rest) (⟨#[41]⟩ : ByteArray)).bind fun bt405 => (if bt405.2 = true then (some (-1, c, acc ++ [(⟨x.f0, x.f1, x.f2⟩ : S46)], bt405.1, true)) else ((strings_CutPrefix.f (mkB rest) (⟨#[44, 32]⟩ : ByteArray)).bind fun bt407 => (if bt407.2 = true then (impl_readGate.l0 k bt407.1 (-1) c (acc ++ [(⟨x.f0, x.f1, x.f2⟩ : S46)])) else (some (0, 0, ([] : List S46), (⟨#[]⟩ : ByteArray), false)))))) (rdRes r) ∧ rdFit L.length (mL acc + 1) r := by
    rw [show (⟨#[41]⟩ : ByteArray) = mkB [41] from rfl, show (⟨#[44, 32]⟩ : ByteArray) = mkB [44, 32] from rfl, pre_f, pre_f]
    simp only [Option.bind_some]
    by_cases c1 : rest.take [(41 : UInt8)].length = [41]
    ·refine ⟨some (⟨-1, c, acc ++ [⟨x.f0, x.f1, x.f2⟩]⟩, rest.drop 1), ?_, ?_⟩
     ·simp only [if_pos c1, if_true]
      exact Ev.now _
     ·simp only [rdFit, hsz, List.length_drop]
      have : rest ≠ [] := fun e => by rw [e] at c1; simp at c1
      have := List.length_pos_iff.mpr this
      omega
    ·simp only [if_neg c1, Bool.false_eq_true, if_false]
     by_cases c2 : rest.take [(44 : UInt8), 32].length = [44, 32]
     ·have hl2 : 2 ≤ rest.length := by
       have := congrArg List.length c2
       rw [List.length_take] at this
       simp only [List.length_cons, List.length_nil] at this
       omega
      obtain ⟨r, hr2, hfit2⟩ := ihl (rest.drop 2) c (acc ++ [⟨x.f0, x.f1, x.f2⟩]) (by rw [List.length_drop]; omega) (by rw [List.length_append, List.length_singleton, List.length_drop]; omega)
      refine ⟨r, ?_, ?_⟩
      ·simp only [if_pos c2, if_true]
       exact hr2
      ·cases r with
       | none => trivial
       | some q =>
        obtain ⟨y, rr⟩ := q
        simp only [rdFit, hsz, List.length_drop] at hfit2 ⊢
        omega
     ·refine ⟨none, ?_, trivial⟩
      simp only [if_neg c2, Bool.false_eq_true, if_false]
      exact Ev.now _
   obtain ⟨r, hr2, hfit2⟩ := key
   refine ⟨r, Ev.step (f := fun k => (impl_readGate.f k (mkB L)).bind fun bt394 => (if bt394.2.2.2.2 = true then (if acc.length < 3518437208883 then ((some (acc ++ [(⟨bt394.1, bt394.2.1, bt394.2.2.1⟩ : S46)] : List S46)).bind fun y402 => ((strings_CutPrefix.f bt394.2.2.2.1 (⟨#[41]⟩ : ByteArray)).bind fun bt405 => (if bt405.2 = true then (some (-1, c, y402, bt405.1, true)) else ((strings_CutPrefix.f bt394.2.2.2.1 (⟨#[44, 32]⟩ : ByteArray)).bind fun bt407 => (if bt407.2 = true then (impl_readGate.l0 k bt407.1 (-1) c y402) else (some (0, 0, ([] : List S46), (⟨#[]⟩ : ByteArray), false))))))) else (none)) else (some (0, 0, ([] : List S46), (⟨#[]⟩ : ByteArray), false)))) (fun k => by simp only [impl_readGate.l0]) (Ev.bind hr ?_), hfit2⟩
   simp only [rdRes, if_true, if_pos (show acc.length < 3518437208883 by omega), Option.bind_some]
   exact hr2
end Go.Proofs.YtijmdlhcidjpmaaDoor.P

namespace Go.Proofs.YtijmdlhcidjpmaaDoor.P
open Go.RowKit Go.Proofs.YtijmdlhcidjpmaaDoorW.PrintWords Go.Proofs.YtijmdlhcidjpmaaDoorW.PrintLast Go.Proofs.YtijmdlhcidjpmaaDoorW.PrintMore
attribute [local go_sem] max2_int min2_int max_two min_two max_three min_three max_four min_four
set_option linter.unusedVariables false
set_option linter.unusedSimpArgs false
end Go.Proofs.YtijmdlhcidjpmaaDoor.P

namespace Go.Proofs.YtijmdlhcidjpmaaDoor.P
open Go.RowKit Go.Proofs.YtijmdlhcidjpmaaDoorW.PrintWords Go.Proofs.YtijmdlhcidjpmaaDoorW.PrintLast Go.Proofs.YtijmdlhcidjpmaaDoorW.PrintMore
attribute [local go_sem] max2_int min2_int max_two min_two max_three min_three max_four min_four
set_option linter.unusedVariables false
set_option linter.unusedSimpArgs false
end Go.Proofs.YtijmdlhcidjpmaaDoor.P

namespace Go.Proofs.YtijmdlhcidjpmaaDoor.P
open Go.RowKit Go.Proofs.YtijmdlhcidjpmaaDoorW.PrintWords Go.Proofs.YtijmdlhcidjpmaaDoorW.PrintLast Go.Proofs.YtijmdlhcidjpmaaDoorW.PrintMore
attribute [local go_sem] max2_int min2_int max_two min_two max_three min_three max_four min_four
set_option linter.unusedVariables false
set_option linter.unusedSimpArgs false
end Go.Proofs.YtijmdlhcidjpmaaDoor.P

namespace Go.Proofs.YtijmdlhcidjpmaaDoor.P
open Go.RowKit Go.Proofs.YtijmdlhcidjpmaaDoorW.PrintWords Go.Proofs.YtijmdlhcidjpmaaDoorW.PrintLast Go.Proofs.YtijmdlhcidjpmaaDoorW.PrintMore
attribute [local go_sem] max2_int min2_int max_two min_two max_three min_three max_four min_four
set_option linter.unusedVariables false
set_option linter.unusedSimpArgs false
end Go.Proofs.YtijmdlhcidjpmaaDoor.P

namespace Go.Proofs.YtijmdlhcidjpmaaDoor.P
open Go.RowKit Go.Proofs.YtijmdlhcidjpmaaDoorW.PrintWords Go.Proofs.YtijmdlhcidjpmaaDoorW.PrintLast Go.Proofs.YtijmdlhcidjpmaaDoorW.PrintMore
attribute [local go_sem] max2_int min2_int max_two min_two max_three min_three max_four min_four
set_option linter.unusedVariables false
set_option linter.unusedSimpArgs false
end Go.Proofs.YtijmdlhcidjpmaaDoor.P

namespace Go.Proofs.YtijmdlhcidjpmaaDoor.P
open Go.RowKit Go.Proofs.YtijmdlhcidjpmaaDoorW.PrintWords Go.Proofs.YtijmdlhcidjpmaaDoorW.PrintLast Go.Proofs.YtijmdlhcidjpmaaDoorW.PrintMore
attribute [local go_sem] max2_int min2_int max_two min_two max_three min_three max_four min_four
set_option linter.unusedVariables false
set_option linter.unusedSimpArgs false
end Go.Proofs.YtijmdlhcidjpmaaDoor.P

namespace Go.Proofs.YtijmdlhcidjpmaaDoor.P
open Go.RowKit Go.Proofs.YtijmdlhcidjpmaaDoorW.PrintWords Go.Proofs.YtijmdlhcidjpmaaDoorW.PrintLast Go.Proofs.YtijmdlhcidjpmaaDoorW.PrintMore
attribute [local go_sem] max2_int min2_int max_two min_two max_three min_three max_four min_four
set_option linter.unusedVariables false
set_option linter.unusedSimpArgs false
theorem let_one : ∀ n : Fin 7, (((UInt8.ofNat ((wrap64 (65 + (n.val : Int))) % 256).toNat).toNat : Int) - 65 = (n.val : Int)) ∧ UInt8.ofNat ((wrap64 (65 + (n.val : Int))) % 256).toNat ≠ 10 ∧ UInt8.ofNat ((wrap64 (65 + (n.val : Int))) % 256).toNat ≠ 45 := by decide +kernel
theorem let_facts {x : Int} (h : 0 ≤ x ∧ x ≤ 7 - 1) : (((UInt8.ofNat ((wrap64 (65 + x)) % 256).toNat).toNat : Int) - 65 = x) ∧ UInt8.ofNat ((wrap64 (65 + x)) % 256).toNat ≠ 10 ∧ UInt8.ofNat ((wrap64 (65 + x)) % 256).toNat ≠ 45 := by
 have := let_one ⟨x.toNat, by omega⟩
 rwa [show (((⟨x.toNat, by omega⟩ : Fin 7).val : Nat) : Int) = x from by simp; omega] at this
theorem let_back (b : UInt8) : UInt8.ofNat ((wrap64 (65 + ((b.toNat : Int) - 65))) % 256).toNat = b := by
 have hb := b.toNat_lt
 rw [show (65 : Int) + ((b.toNat : Int) - 65) = (b.toNat : Int) by omega, wr (by omega) (by omega), show ((b.toNat : Int) % 256).toNat = b.toNat by omega]
 simp
end Go.Proofs.YtijmdlhcidjpmaaDoor.P

namespace Go.Proofs.YtijmdlhcidjpmaaDoor.P
open Go.RowKit Go.Proofs.YtijmdlhcidjpmaaDoorW.PrintWords Go.Proofs.YtijmdlhcidjpmaaDoorW.PrintLast Go.Proofs.YtijmdlhcidjpmaaDoorW.PrintMore
attribute [local go_sem] max2_int min2_int max_two min_two max_three min_three max_four min_four
set_option linter.unusedVariables false
set_option linter.unusedSimpArgs false
theorem gate_eta (x : S46) : (⟨x.f0, x.f1, x.f2⟩ : S46) = x := by cases x; rfl
theorem kidsL_cons (z : S46) (r : List S46) : kidsL (z :: r) = 44 :: 32 :: (tl z ++ kidsL r) := rfl
theorem leaf_facts {h : Int} (hh : h ≤ 7) {x : S46} (hf : fT h x = true) (e : x.f2 = []) : (0 ≤ x.f0 ∧ x.f0 ≤ 6) ∧ x.f1 = 0 := by
 rw [fT_parts, e] at hf
 simp only [List.isEmpty_nil, if_true, Bool.and_eq_true, decide_eq_true_eq] at hf
 exact ⟨⟨hf.2.1, by omega⟩, hf.1⟩
theorem leaf_byte {x : S46} (e : x.f2 = []) (h : 0 ≤ x.f0 ∧ x.f0 ≤ 6) : ∃ b : UInt8, tl x = [b] ∧ (b.toNat : Int) = 65 + x.f0 := by
 refine ⟨_, tl_leaf e, ?_⟩
 have := (let_facts (x := x.f0) ⟨h.1, by omega⟩).1
 omega
theorem inner_facts {h : Int} {x z : S46} {r : List S46} (hf : fT h x = true) (hm : mT x ≤ 98) (e : x.f2 = z :: r) : x.f0 = -1 ∧ (0 ≤ x.f1 ∧ x.f1 < 100) ∧ fL h (z :: r) = true := by
 obtain ⟨⟨h1, h2⟩, h3⟩ := fT_inner hf (by rw [e]; simp)
 have hk := mT_kids x
 have hl := mL_len x.f2
 rw [e] at h3
 refine ⟨?_, ⟨by omega, by omega⟩, h3⟩
 rw [fT_parts, e] at hf
 simp only [List.isEmpty_cons, Bool.false_eq_true, if_false, Bool.and_eq_true, decide_eq_true_eq] at hf
 exact hf.2.1
theorem dig_head {n : Int} (h0 : 0 ≤ n) (h1 : n < 100) : ∃ d ds, dig n = d :: ds ∧ isDig d = true ∧ ds.all isDig = true := by
 obtain ⟨e1, e2, _, _⟩ := dig_facts h0 h1
 cases e : dig n with
 | nil =>
  rw [e] at e1
  exact absurd e1 (by simp [numB])
 | cons d ds =>
  rw [e] at e2
  simp only [List.all_cons, Bool.and_eq_true] at e2
  exact ⟨d, ds, rfl, e2.1, e2.2⟩
theorem readGate_back (h : Int) (hh : h ≤ 7) : ∀ (n : Nat) (x : S46), mT x ≤ n → n ≤ 98 → fT h x = true → ∀ R : List UInt8, (tl x ++ R).length ≤ 1048576 → Ev (fun k => impl_readGate.f k (mkB (tl x ++ R))) (x.f0, x.f1, x.f2, mkB R, true) := by
 have leaf : ∀ x : S46, x.f2 = [] → fT h x = true → ∀ R : List UInt8, Ev (fun k => impl_readGate.f k (mkB (tl x ++ R))) (x.f0, x.f1, x.f2, mkB R, true) := by
  intro x e hf R
  obtain ⟨h1, h2⟩ := leaf_facts hh hf e
  obtain ⟨b, e1, e2⟩ := leaf_byte e h1
  rw [e1, List.singleton_append, e, h2]
  refine Ev.step (f := fun k => impl_readGate.j0 k (mkB (b :: R)) true) (fun k => ?_) (Ev.step (f := fun _ => some (x.f0, 0, ([] : List S46), mkB R, true)) (fun k => ?_) (Ev.now _))
  ·simp only [impl_readGate.f]
   rw [if_neg (by rw [toList_mkB]; simp), if_pos (by rw [mkB_size, List.length_cons]; omega), bt_head, if_pos (by omega), decide_eq_true (by omega)]
  ·simp only [impl_readGate.j0, if_true]
   rw [if_pos (by rw [mkB_size, List.length_cons]; omega), if_pos (by rw [mkB_size, List.length_cons]; omega), bt_head, extract_one, show ((b.toNat : Int) - 65) % 256 = x.f0 by omega]
 intro n
 induction n with
 | zero =>
  intro x hx _ hf R _
  have hk := mT_kids x
  cases e : x.f2 with
  | nil => rw [← e]; exact leaf x e hf R
  | cons z r => rw [e, mL_cons] at hk; omega
 | succ n ih =>
  intro x hx hn hf R hR
  cases e : x.f2 with
  | nil => rw [← e]; exact leaf x e hf R
  | cons z r =>
   obtain ⟨h1, h2, h3⟩ := inner_facts hf (by omega) e
   have hk := mT_kids x
   obtain ⟨d, ds, e1, e2, e3⟩ := dig_head h2.1 h2.2
   have hd : 48 ≤ d.toNat ∧ d.toNat ≤ 57 := by simpa [isDig] using e2
   have etext : tl x ++ R = dig x.f1 ++ 40 :: (tl z ++ (kidsL r ++ 41 :: R)) := by rw [tl_inner e]; simp
   have hlen : (tl x ++ R).length = (dig x.f1).length + ((tl z ++ (kidsL r ++ 41 :: R)).length + 1) := by rw [etext, List.length_append, List.length_cons]
   have key : ∀ (r : List S46) (z : S46) (pre : List S46), pre ++ z :: r = x.f2 → (tl z ++ (kidsL r ++ 41 :: R)).length ≤ 1048576 → Ev (fun k => impl_readGate.l0 k (mkB (tl z ++ (kidsL r ++ 41 :: R))) (-1) x.f1 pre) (-1, x.f1, x.f2, mkB R, true) := by
    have hml : ∀ p q : List S46, mL (p ++ q) = mL p + mL q := by
     intro p q
     induction p with
     | nil => simp [mL]
     | cons u p ihp => rw [List.cons_append, mL_cons, mL_cons, ihp]; omega
    intro r
    induction r with
    | nil =>
     intro z pre hp hl
     have hsz : mL x.f2 = mL pre + (1 + mT z + mL ([] : List S46)) := by rw [← hp, hml, mL_cons]
     have hpl := mL_len pre
     have hfz : fT h z = true := by
      have h4 := h3
      rw [← e, ← hp, fL_all, List.all_append, Bool.and_eq_true] at h4
      simp only [List.all_cons, Bool.and_eq_true] at h4
      exact h4.2.1
     have one := ih z (by omega) (by omega) hfz (kidsL [] ++ 41 :: R) hl
     refine Ev.step (fun k => by simp only [impl_readGate.l0]; rfl) (Ev.bind one ?_)
     simp only [if_true, if_pos (show pre.length < 3518437208883 by omega), Option.bind_some]
     rw [show kidsL [] ++ 41 :: R = 41 :: R from rfl, show (⟨#[41]⟩ : ByteArray) = mkB [41] from rfl, pre_f]
     simp only [List.length_singleton, List.take_succ_cons, List.take_zero, if_true, Option.bind_some, List.drop_succ_cons, List.drop_zero]
     rw [show pre ++ [(⟨z.f0, z.f1, z.f2⟩ : S46)] = x.f2 by rw [gate_eta]; exact hp]
     exact Ev.now _
    | cons y r ihr =>
     intro z pre hp hl
     have hsz : mL x.f2 = mL pre + (1 + mT z + mL (y :: r)) := by rw [← hp, hml, mL_cons]
     have hpl := mL_len pre
     have hfz : fT h z = true := by
      have h4 := h3
      rw [← e, ← hp, fL_all, List.all_append, Bool.and_eq_true] at h4
      simp only [List.all_cons, Bool.and_eq_true] at h4
      exact h4.2.1
     have one := ih z (by omega) (by omega) hfz (kidsL (y :: r) ++ 41 :: R) hl
     have e5 : kidsL (y :: r) ++ 41 :: R = 44 :: 32 :: (tl y ++ (kidsL r ++ 41 :: R)) := by rw [kidsL_cons]; simp
     have hl2 : (tl y ++ (kidsL r ++ 41 :: R)).length ≤ 1048576 := by
      rw [List.length_append, e5, List.length_cons, List.length_cons] at hl
      omega
     have two := ihr y (pre ++ [z]) (by rw [← hp]; simp) hl2
     refine Ev.step (fun k => by simp only [impl_readGate.l0]; rfl) (Ev.bind one ?_)
     simp only [if_true, if_pos (show pre.length < 3518437208883 by omega), Option.bind_some]
     rw [gate_eta z, e5, show (⟨#[41]⟩ : ByteArray) = mkB [41] from rfl, show (⟨#[44, 32]⟩ : ByteArray) = mkB [44, 32] from rfl, pre_f, pre_f]
     simp only [List.length_singleton, List.length_cons, List.length_nil, List.take_succ_cons, List.take_zero, Option.bind_some, List.drop_succ_cons, List.drop_zero, if_true]
     simp only [show ¬ ([(44 : UInt8)] = [41]) by decide, if_false, Bool.false_eq_true]
     exact two
   have run := key r z [] (by rw [e]; rfl) (by omega)
   rw [← e, h1, etext]
   have hdl : (dig x.f1).length ≤ 1048576 := by omega
   have hbt : bt (mkB (dig x.f1 ++ 40 :: (tl z ++ (kidsL r ++ 41 :: R)))) 0 = (d.toNat : Int) := by rw [e1, List.cons_append]; exact bt_head _ _
   have hlt : (dig x.f1 ++ 40 :: (tl z ++ (kidsL r ++ 41 :: R))).length ≤ 1048576 := by rw [← etext]; exact hR
   have hcut := cut_f _ hlt
   rw [cut_hit (dig_no (by decide) h2.1 h2.2)] at hcut
   have hpi : strconv_ParseInt_70.f (mkB (dig x.f1)) 10 64 = some (x.f1, false) := by
    have e6 : piB (mkB (dig x.f1)) = (x.f1, false) := by
     rw [show mkB (dig x.f1) = decS x.f1 from mkB_eta _]
     exact (dig_facts h2.1 h2.2).2.2.1
    rw [← e6]
    exact if_pos ⟨⟨rfl, rfl⟩, by rw [mkB_size]; exact hdl⟩
   refine Ev.step (f := fun k => impl_readGate.j0 k (mkB (dig x.f1 ++ 40 :: (tl z ++ (kidsL r ++ 41 :: R)))) false) (fun k => ?_) (Ev.step (f := fun k => impl_readGate.j1 k (mkB (tl z ++ (kidsL r ++ 41 :: R))) x.f1 false) (fun k => ?_) (Ev.step (f := fun k => impl_readGate.l0 k (mkB (tl z ++ (kidsL r ++ 41 :: R))) (-1) x.f1 []) (fun k => by simp only [impl_readGate.j1, Bool.false_eq_true, if_false]) run))
   ·simp only [impl_readGate.f]
    rw [if_neg (by rw [toList_mkB, e1]; simp), if_pos (by rw [mkB_size, e1]; simp; omega), hbt, if_neg (by omega)]
   ·simp only [impl_readGate.j0, Bool.false_eq_true, if_false]
    rw [hcut]
    simp only [Option.bind_some]
    rw [hpi]
    simp
theorem ev_one {α : Type} {g : Nat → Option α} {a b : α} (h1 : Ev g a) (h2 : Ev g b) : a = b := by
 obtain ⟨K, h1⟩ := h1
 obtain ⟨K', h2⟩ := h2
 have e1 := h1 (K + K') (by omega)
 have e2 := h2 (K + K') (by omega)
 rw [e1] at e2
 exact Option.some.inj e2
theorem tl_short {h : Int} {x : S46} (e : okT h x = true) : (tl x).length ≤ 480 := by
 obtain ⟨h1, h2⟩ := okT_text e
 have := (tx_size h 59 (by omega)).1 x h1 h2
 unfold tl
 rw [← size_data]
 omega
theorem okT_seven {h : Int} {x : S46} (e : okT h x = true) : h ≤ 7 := by
 unfold okT at e
 simp only [Bool.and_eq_true, decide_eq_true_eq] at e
 exact e.1.2
theorem txT_inj {h : Int} {x y : S46} (hx : okT h x = true) (hy : okT h y = true) (e : txT x = txT y) : x = y := by
 have h7 := okT_seven hx
 have a := readGate_back h h7 59 x (okT_text hx).1 (by omega) (okT_text hx).2 [] (by have := tl_short hx; rw [List.append_nil]; omega)
 have b := readGate_back h h7 59 y (okT_text hy).1 (by omega) (okT_text hy).2 [] (by have := tl_short hy; rw [List.append_nil]; omega)
 rw [show tl x = tl y by unfold tl; rw [e]] at a
 have := ev_one a b
 simp only [Prod.mk.injEq] at this
 cases x
 cases y
 simp only at this
 simp [this.1, this.2.1, this.2.2.1]
theorem impl_ReadGate_gives (h : Int) (hh : 1 ≤ h ∧ h ≤ 7) (s : ByteArray) (hs : s.size ≤ 4000) :
  (∃ x, okT h x = true ∧ txT x = s ∧ Ev (fun k => impl_ReadGate.f k h s) (x.f0, x.f1, x.f2, 0)) ∨ ((∀ x, okT h x = true → txT x ≠ s) ∧ Ev (fun k => impl_ReadGate.f k h s) (0, 0, [], 5)) := by
 have hstep : ∀ {R : Int × Int × List S46 × Int}, Ev (fun k => (impl_readGate.f k s).bind fun bt411 => (if bt411.2.2.2.2 = true then (if bt411.2.2.2.1.toList = ([] : List UInt8) then ((impl_GateText.f k h bt411.1 bt411.2.1 bt411.2.2.1).bind fun t419 => (if t419.toList = s.toList then (some (bt411.1, bt411.2.1, bt411.2.2.1, 0)) else (some (0, 0, ([] : List S46), 5)))) else (some (0, 0, ([] : List S46), 5))) else (some (0, 0, ([] : List S46), 5)))) R → Ev (fun k => impl_ReadGate.f k h s) R := by
  intro R hR
  refine Ev.congr (f := fun k => impl_ReadGate.j0 k h s false) (fun k => ?_) (Ev.step (fun k => ?_) hR)
  ·unfold impl_ReadGate.f
   rw [impl_within_eq, decide_eq_true hh]
   simp only [Option.bind_some, if_true]
   rw [decide_eq_false (by omega)]
  ·simp only [impl_ReadGate.j0, Bool.false_eq_true, if_false]
 have hmk : mkB s.data.toList = s := mkB_eta s
 have hsl := size_data s
 obtain ⟨r, hr, hfit⟩ := (readGate_ends 4000 (Nat.le_refl _)).1 s.data.toList (by omega)
 rw [hmk] at hr
 have only : ∀ x, okT h x = true → txT x = s → r = some (x, []) := by
  intro x hx e
  have b := readGate_back h hh.2 59 x (okT_text hx).1 (by omega) (okT_text hx).2 [] (by have := tl_short hx; rw [List.append_nil]; omega)
  rw [List.append_nil, show mkB (tl x) = s by unfold tl; rw [mkB_eta, e]] at b
  have e3 := ev_one hr b
  cases r with
  | none =>
   have := congrArg (fun p => p.2.2.2.2) e3
   cases this
  | some p =>
   obtain ⟨y, rest⟩ := p
   simp only [rdRes, Prod.mk.injEq] at e3
   have e4 := mkB_ext e3.2.2.2.1
   rw [← gate_eta y, e3.1, e3.2.1, e3.2.2.1, gate_eta, e4]
 cases r with
 | none =>
  refine Or.inr ⟨fun x hx e => (by have := only x hx e; simp at this), hstep (Ev.bind hr ?_)⟩
  simp only [rdRes, Bool.false_eq_true, if_false]
  exact Ev.now _
 | some p =>
  obtain ⟨x, rest⟩ := p
  simp only [rdFit] at hfit
  by_cases hz : rest = []
  ·subst hz
   have hgt := impl_GateText_ev h x.f0 x.f1 x.f2 (by omega)
   by_cases hok : okT h x = true ∧ txT x = s
   ·refine Or.inl ⟨x, hok.1, hok.2, hstep (Ev.bind hr ?_)⟩
    simp only [rdRes, if_true, toList_mkB]
    refine Ev.bind hgt ?_
    rw [show TextRes h ⟨x.f0, x.f1, x.f2⟩ = s by rw [gate_eta]; unfold TextRes; rw [if_pos hok.1]; exact hok.2]
    simp only [if_true]
    exact Ev.now _
   ·refine Or.inr ⟨fun y hy e => ?_, hstep (Ev.bind hr ?_)⟩
    ·have := only y hy e
     simp only [Option.some.injEq, Prod.mk.injEq, and_true] at this
     subst this
     exact hok ⟨hy, e⟩
    ·simp only [rdRes, if_true, toList_mkB]
     refine Ev.bind hgt ?_
     have hne : ¬ ((TextRes h ⟨x.f0, x.f1, x.f2⟩).toList = s.toList) := by
      rw [ByteArray.toList_eq, ByteArray.toList_eq]
      intro e
      have e := bytes_ext e
      rw [gate_eta] at e
      unfold TextRes at e
      by_cases c : okT h x = true
      ·rw [if_pos c] at e
       exact hok ⟨c, e⟩
      ·rw [if_neg c] at e
       rw [← e] at hfit
       simp at hfit
     simp only [if_neg hne]
     exact Ev.now _
  ·refine Or.inr ⟨fun y hy e => ?_, hstep (Ev.bind hr ?_)⟩
   ·have := only y hy e
    simp only [Option.some.injEq, Prod.mk.injEq] at this
    exact hz this.2
   ·simp only [rdRes, if_true, toList_mkB, if_neg hz]
    exact Ev.now _
end Go.Proofs.YtijmdlhcidjpmaaDoor.P

namespace Go.Proofs.YtijmdlhcidjpmaaDoor.P
open Go.RowKit Go.Proofs.YtijmdlhcidjpmaaDoorW.PrintWords Go.Proofs.YtijmdlhcidjpmaaDoorW.PrintLast Go.Proofs.YtijmdlhcidjpmaaDoorW.PrintMore
attribute [local go_sem] max2_int min2_int max_two min_two max_three min_three max_four min_four
set_option linter.unusedVariables false
set_option linter.unusedSimpArgs false
theorem peek_f (s : ByteArray) (i : Nat) (d : Int) (b : Bool) (h : i < s.size) : ∃ c r, s.data.toList.drop i = c :: r ∧ s.data.toList.drop (i + 1) = r ∧ spec_l02Reader_peek.f s (i : Int) d b = some ((c.toNat : Int), s, (i : Int), d, b) := by
 obtain ⟨c, r, h1, h2, h3⟩ := bt_list s i h
 refine ⟨c, r, h1, h2, ?_⟩
 unfold spec_l02Reader_peek.f
 rw [if_pos (by omega), if_pos (by omega), h3]
theorem peek_end (s : ByteArray) (d : Int) (b : Bool) (i : Nat) (h : s.size ≤ i) : spec_l02Reader_peek.f s (i : Int) d b = some (0, s, (i : Int), d, b) := by
 unfold spec_l02Reader_peek.f
 rw [if_neg (by omega)]
def pkB (L : List UInt8) : Int := match L with
 | [] => 0
 | c :: _ => (c.toNat : Int)
theorem peek_eq (s : ByteArray) (i : Nat) (d : Int) (b : Bool) (h : i ≤ s.size) : spec_l02Reader_peek.f s (i : Int) d b = some (pkB (s.data.toList.drop i), s, (i : Int), d, b) := by
 by_cases c : i < s.size
 ·obtain ⟨b', r, h1, _, h3⟩ := peek_f s i d b c
  rw [h3, h1]
  rfl
 ·rw [peek_end s d b i (by omega), List.drop_eq_nil_of_le (by rw [← size_data]; omega)]
  rfl
theorem pkB_some {L : List UInt8} (h : pkB L ≠ 0) : ∃ c r, L = c :: r ∧ pkB L = (c.toNat : Int) := by
 cases L with
 | nil => exact absurd rfl h
 | cons c r => exact ⟨c, r, rfl, rfl⟩
theorem take_eq (s : ByteArray) (i : Nat) (d : Int) (b : Bool) (p : List UInt8) (hi : i ≤ s.size) (hs : s.size ≤ 4000) (hp : p.length ≤ 4) : spec_l02Reader_take.f s (i : Int) d b (mkB p) = some (if (s.data.toList.drop i).take p.length = p then (s, ((i + p.length : Nat) : Int), d, b) else (s, (i : Int), d, true)) := by
 unfold spec_l02Reader_take.f
 rw [mkB_size, wr (x := (s.size : Int) - (i : Int)) (by omega) (by omega), wr (x := (i : Int) + (p.length : Int)) (by omega) (by omega)]
 by_cases c : (s.data.toList.drop i).take p.length = p
 ·have hl : p.length ≤ s.size - i := by
   have := congrArg List.length c
   rw [List.length_take, List.length_drop, ← size_data] at this
   omega
  have e : (s.extract i (i + p.length)).toList = p := by
   rw [ByteArray.toList_eq, Go.Lib.extract_data, show i + p.length - i = p.length by omega]
   exact c
  rw [if_neg (by omega), if_pos (by omega), if_pos (by omega), if_pos (by omega), show ((i : Int)).toNat = i by omega, show ((i : Int) + (p.length : Int)).toNat = i + p.length by omega, e, toList_mkB, if_pos rfl, if_pos c]
  push_cast
  rfl
 ·rw [if_neg c]
  by_cases hl : p.length ≤ s.size - i
  ·have e : (s.extract i (i + p.length)).toList = (s.data.toList.drop i).take p.length := by
    rw [ByteArray.toList_eq, Go.Lib.extract_data, show i + p.length - i = p.length by omega]
   rw [if_neg (by omega), if_pos (by omega), if_pos (by omega), if_pos (by omega), show ((i : Int)).toNat = i by omega, show ((i : Int) + (p.length : Int)).toNat = i + p.length by omega, e, toList_mkB, if_neg c]
  ·rw [if_pos (by omega)]
theorem take_hit {L p : List UInt8} {i : Nat} (h : (L.drop i).take p.length = p) : L.drop i = p ++ L.drop (i + p.length) := by
 have e := (List.take_append_drop p.length (L.drop i)).symm
 rw [h, List.drop_drop] at e
 exact e
theorem digits_pass (s : ByteArray) (hs : s.size ≤ 4000) (a : Int) (d : Int) (b : Bool) : ∀ n i : Nat, i + n = s.size → ∃ j, i ≤ j ∧ j ≤ s.size ∧ ∀ {R}, Ev (fun k => spec_l02Reader_gate.j3 k a s (j : Int) d b) R → Ev (fun k => spec_l02Reader_gate.l0 k a s (i : Int) d b) R := by
 intro n
 induction n with
 | zero =>
  intro i hi
  refine ⟨i, Nat.le_refl _, by omega, fun {R} hR => Ev.step (fun k => ?_) hR⟩
  simp only [spec_l02Reader_gate.l0]
  rw [peek_end s d b i (by omega)]
  simp
 | succ n ih =>
  intro i hi
  obtain ⟨c, r, _, _, hp⟩ := peek_f s i d b (by omega)
  by_cases h1 : (c.toNat : Int) ≥ 48
  ·by_cases h2 : (c.toNat : Int) ≤ 57
   ·obtain ⟨j, h3, h4, h5⟩ := ih (i + 1) (by omega)
    refine ⟨j, by omega, h4, fun {R} hR => Ev.step (fun k => ?_) (h5 hR)⟩
    simp only [spec_l02Reader_gate.l0]
    rw [hp]
    simp only [Option.bind_some, if_pos h1]
    rw [hp]
    simp only [Option.bind_some, if_pos h2]
    rw [wr (by omega) (by omega)]
    rfl
   ·refine ⟨i, Nat.le_refl _, by omega, fun {R} hR => Ev.step (fun k => ?_) hR⟩
    simp only [spec_l02Reader_gate.l0]
    rw [hp]
    simp only [Option.bind_some, if_pos h1]
    rw [hp]
    simp only [Option.bind_some, if_neg h2]
  ·refine ⟨i, Nat.le_refl _, by omega, fun {R} hR => Ev.step (fun k => ?_) hR⟩
   simp only [spec_l02Reader_gate.l0]
   rw [hp]
   simp only [Option.bind_some, if_neg h1]
theorem digits_to (s : ByteArray) (hs : s.size ≤ 4000) (a : Int) (d : Int) (b : Bool) (c : UInt8) (hc : c.toNat < 48) (T : List UInt8) : ∀ (q : List UInt8) (i : Nat), s.data.toList.drop i = q ++ c :: T → q.all isDig = true → ∀ {R}, Ev (fun k => spec_l02Reader_gate.j3 k a s ((i + q.length : Nat) : Int) d b) R → Ev (fun k => spec_l02Reader_gate.l0 k a s (i : Int) d b) R := by
 intro q
 induction q with
 | nil =>
  intro i he _ R hR
  have hi : i < s.size := by
   have := congrArg List.length he
   rw [List.length_drop, ← size_data] at this
   simp only [List.nil_append, List.length_cons] at this
   omega
  obtain ⟨c', r, h1, _, hp⟩ := peek_f s i d b hi
  rw [he, List.nil_append] at h1
  obtain ⟨rfl, _⟩ := List.cons.inj h1
  refine Ev.step (fun k => ?_) hR
  simp only [spec_l02Reader_gate.l0]
  rw [hp]
  simp only [Option.bind_some]
  rw [if_neg (by omega)]
  rfl
 | cons e q ih =>
  intro i he hq R hR
  have hi : i < s.size := by
   have := congrArg List.length he
   rw [List.length_drop, ← size_data] at this
   simp only [List.cons_append, List.length_cons] at this
   omega
  obtain ⟨c', r, h1, h2, hp⟩ := peek_f s i d b hi
  rw [he, List.cons_append] at h1
  obtain ⟨rfl, h3⟩ := List.cons.inj h1
  simp only [List.all_cons, Bool.and_eq_true] at hq
  have hd : 48 ≤ e.toNat ∧ e.toNat ≤ 57 := by simpa [isDig] using hq.1
  rw [List.length_cons, show i + (q.length + 1) = i + 1 + q.length by omega] at hR
  have := ih (i + 1) (by rw [h2, ← h3]) hq.2 hR
  refine Ev.step (fun k => ?_) this
  simp only [spec_l02Reader_gate.l0]
  rw [hp]
  simp only [Option.bind_some]
  rw [if_pos (by omega), hp]
  simp only [Option.bind_some]
  rw [if_pos (by omega), wr (by omega) (by omega)]
  rfl
def left_ (L : List UInt8) (i d : Nat) (b : Bool) (x : S46) (j e : Nat) (b' : Bool) : Prop :=
 (i ≤ j ∧ j ≤ L.length) ∧ (d ≤ e ∧ e ≤ 42) ∧ (b = true → b' = true) ∧ (b' = false → e = d ∧ mL x.f2 + 1 + i ≤ j ∧ ∀ h, h ≤ 7 → fT h x = true → mT x ≤ 98 → L.drop i = tl x ++ L.drop j)
def leftL_ (L : List UInt8) (i d : Nat) (b : Bool) (ks : List S46) (j e : Nat) (b' : Bool) : Prop :=
 (i ≤ j ∧ j ≤ L.length) ∧ (d ≤ e ∧ e ≤ 42) ∧ (b = true → b' = true) ∧ (b' = false → e = d ∧ mL ks + 1 + i ≤ j ∧ ∀ h, h ≤ 7 → fL h ks = true → mL ks ≤ 98 → L.drop i = kidsL ks ++ 41 :: L.drop j)
theorem kids_bad (s : ByteArray) (hs : s.size ≤ 4000) (n : Int) (acc : List S46) (i d e : Nat) (hi : i ≤ s.size) (hd : d + 1 ≤ e) (he : e ≤ 42) : ∃ j : Nat, Ev (fun k => spec_l02Reader_gate.l1 k s (i : Int) (e : Int) true (-1) n acc) (-1, n, acc, s, (j : Int), ((e - 1 : Nat) : Int), true) ∧ i ≤ j ∧ j ≤ s.size := by
 have ht := take_eq s i (e : Int) true [41] hi hs (by simp)
 by_cases c : (s.data.toList.drop i).take [(41 : UInt8)].length = [41]
 ·rw [if_pos c] at ht
  have hl := congrArg List.length (take_hit c)
  rw [List.length_append, List.length_drop, ← size_data] at hl
  simp only [List.length_singleton] at hl
  refine ⟨i + 1, Ev.step (f := fun k => spec_l02Reader_gate.j6 k false s (i : Int) (e : Int) true (-1) n acc) (fun k => by simp only [spec_l02Reader_gate.l1, if_true]) (Ev.step (f := fun _ => some (-1, n, acc, s, ((i + 1 : Nat) : Int), ((e - 1 : Nat) : Int), true)) (fun k => ?_) (Ev.now _)), by omega, by omega⟩
  simp only [spec_l02Reader_gate.j6, Bool.false_eq_true, if_false]
  rw [show (⟨#[41]⟩ : ByteArray) = mkB [41] from rfl, ht]
  simp only [Option.bind_some, List.length_singleton]
  rw [wr (by omega) (by omega), show (e : Int) - 1 = ((e - 1 : Nat) : Int) by omega]
 ·rw [if_neg c] at ht
  refine ⟨i, Ev.step (f := fun k => spec_l02Reader_gate.j6 k false s (i : Int) (e : Int) true (-1) n acc) (fun k => by simp only [spec_l02Reader_gate.l1, if_true]) (Ev.step (f := fun _ => some (-1, n, acc, s, (i : Int), ((e - 1 : Nat) : Int), true)) (fun k => ?_) (Ev.now _)), by omega, by omega⟩
  simp only [spec_l02Reader_gate.j6, Bool.false_eq_true, if_false]
  rw [show (⟨#[41]⟩ : ByteArray) = mkB [41] from rfl, ht]
  simp only [Option.bind_some]
  rw [wr (by omega) (by omega), show (e : Int) - 1 = ((e - 1 : Nat) : Int) by omega]
end Go.Proofs.YtijmdlhcidjpmaaDoor.P

namespace Go.Proofs.YtijmdlhcidjpmaaDoor.P
open Go.RowKit Go.Proofs.YtijmdlhcidjpmaaDoorW.PrintWords Go.Proofs.YtijmdlhcidjpmaaDoorW.PrintLast Go.Proofs.YtijmdlhcidjpmaaDoorW.PrintMore
attribute [local go_sem] max2_int min2_int max_two min_two max_three min_three max_four min_four
set_option linter.unusedVariables false
set_option linter.unusedSimpArgs false
theorem kids_ends (s : ByteArray) (hs : s.size ≤ 4000) (d : Nat) (hd : d ≤ 40)
  (G : ∀ (i : Nat) (b : Bool), i ≤ s.size → ∃ (x : S46) (j e : Nat) (b' : Bool), Ev (fun k => spec_l02Reader_gate.f k s (i : Int) ((d + 1 : Nat) : Int) b) (x.f0, x.f1, x.f2, s, (j : Int), (e : Int), b') ∧ left_ s.data.toList i (d + 1) b x j e b') (n : Int) :
  ∀ (N i : Nat) (acc : List S46), s.size - i < N → i ≤ s.size → acc.length + (s.size - i) ≤ 10000 → ∃ (ks : List S46) (j e : Nat) (b' : Bool), Ev (fun k => spec_l02Reader_gate.l1 k s (i : Int) ((d + 1 : Nat) : Int) false (-1) n acc) (-1, n, acc ++ ks, s, (j : Int), (e : Int), b') ∧ leftL_ s.data.toList i d false ks j e b' := by
 intro N
 induction N with
 | zero => intro i acc h; omega
 | succ N ih =>
  intro i acc hN hi hacc
  have hsz := size_data s
  have first : ∀ {R}, Ev (fun k => spec_l02Reader_gate.j6 k (pkB (s.data.toList.drop i) == 44) s (i : Int) ((d + 1 : Nat) : Int) false (-1) n acc) R → Ev (fun k => spec_l02Reader_gate.l1 k s (i : Int) ((d + 1 : Nat) : Int) false (-1) n acc) R := fun {R} hR => Ev.step (fun k => by
   simp only [spec_l02Reader_gate.l1, Bool.false_eq_true, if_false]
   rw [peek_eq s i _ false hi]
   rfl) hR
  cases h44 : (pkB (s.data.toList.drop i) == 44) with
  | false =>
   rw [h44] at first
   have ht := take_eq s i ((d + 1 : Nat) : Int) false [41] hi hs (by simp)
   by_cases c : (s.data.toList.drop i).take [(41 : UInt8)].length = [41]
   ·rw [if_pos c] at ht
    have e1 := take_hit c
    have hl := congrArg List.length e1
    rw [List.length_append, List.length_drop, ← hsz] at hl
    simp only [List.length_singleton] at hl e1
    refine ⟨[], i + 1, d, false, first (Ev.step (f := fun _ => some (-1, n, acc ++ [], s, ((i + 1 : Nat) : Int), (d : Int), false)) (fun k => ?_) (Ev.now _)), ⟨by omega, by omega⟩, ⟨by omega, by omega⟩, by simp, fun _ => ⟨rfl, by simp only [mL]; omega, fun h _ _ _ => ?_⟩⟩
    ·simp only [spec_l02Reader_gate.j6, Bool.false_eq_true, if_false]
     rw [show (⟨#[41]⟩ : ByteArray) = mkB [41] from rfl, ht]
     simp only [Option.bind_some, List.length_singleton]
     rw [wr (by omega) (by omega), show ((d + 1 : Nat) : Int) - 1 = (d : Int) by omega, List.append_nil]
    ·rw [e1]
     rfl
   ·rw [if_neg c] at ht
    refine ⟨[], i, d, true, first (Ev.step (f := fun _ => some (-1, n, acc ++ [], s, (i : Int), (d : Int), true)) (fun k => ?_) (Ev.now _)), ⟨by omega, by omega⟩, ⟨by omega, by omega⟩, by simp, fun h => by cases h⟩
    simp only [spec_l02Reader_gate.j6, Bool.false_eq_true, if_false]
    rw [show (⟨#[41]⟩ : ByteArray) = mkB [41] from rfl, ht]
    simp only [Option.bind_some]
    rw [wr (by omega) (by omega), show ((d + 1 : Nat) : Int) - 1 = (d : Int) by omega, List.append_nil]
  | true =>
   rw [h44] at first
   have ht := take_eq s i ((d + 1 : Nat) : Int) false [44, 32] hi hs (by simp)
   have more : ∀ (i1 : Nat) (b1 : Bool) {x : S46} {j e : Nat} {b2 : Bool} {R}, spec_l02Reader_take.f s (i : Int) ((d + 1 : Nat) : Int) false (mkB [44, 32]) = some (s, (i1 : Int), ((d + 1 : Nat) : Int), b1) → Ev (fun k => spec_l02Reader_gate.f k s (i1 : Int) ((d + 1 : Nat) : Int) b1) (x.f0, x.f1, x.f2, s, (j : Int), (e : Int), b2) → Ev (fun k => spec_l02Reader_gate.l1 k s (j : Int) (e : Int) b2 (-1) n (acc ++ [x])) R → Ev (fun k => spec_l02Reader_gate.l1 k s (i : Int) ((d + 1 : Nat) : Int) false (-1) n acc) R := by
    intro i1 b1 x j e b2 R h1 h2 h3
    refine first (Ev.step (f := fun k => (spec_l02Reader_gate.f k s (i1 : Int) ((d + 1 : Nat) : Int) b1).bind fun bt349 => (if acc.length < 3518437208883 then (spec_l02Reader_gate.l1 k bt349.2.2.2.1 bt349.2.2.2.2.1 bt349.2.2.2.2.2.1 bt349.2.2.2.2.2.2 (-1) n (acc ++ [(⟨bt349.1, bt349.2.1, bt349.2.2.1⟩ : S46)])) else none)) (fun k => ?_) (Ev.bind h2 ?_))
    ·simp only [spec_l02Reader_gate.j6, if_true]
     rw [show (⟨#[44, 32]⟩ : ByteArray) = mkB [44, 32] from rfl, h1]
     rfl
    ·simp only [if_pos (show acc.length < 3518437208883 by omega)]
     rw [gate_eta]
     exact h3
   by_cases c : (s.data.toList.drop i).take [(44 : UInt8), 32].length = [44, 32]
   ·rw [if_pos c] at ht
    have e1 := take_hit c
    have hl := congrArg List.length e1
    rw [List.length_append, List.length_drop, ← hsz] at hl
    simp only [List.length_cons, List.length_nil] at hl e1 ht
    obtain ⟨x, j, e, b2, g1, ⟨g2, g3⟩, ⟨g4, g5⟩, g6, g7⟩ := G (i + 2) false (by omega)
    cases b2 with
    | true =>
     obtain ⟨j2, k1, k2, k3⟩ := kids_bad s hs n (acc ++ [x]) j d e (by omega) g4 g5
     exact ⟨[x], j2, e - 1, true, more (i + 2) false ht g1 k1, ⟨by omega, by omega⟩, ⟨by omega, by omega⟩, by simp, fun h => by cases h⟩
    | false =>
     obtain ⟨q1, q2, q3⟩ := g7 rfl
     subst q1
     obtain ⟨ks, j2, e2, b3, r1, ⟨r2, r3⟩, ⟨r4, r5⟩, r6, r7⟩ := ih j (acc ++ [x]) (by omega) (by omega) (by rw [List.length_append, List.length_singleton]; omega)
     refine ⟨x :: ks, j2, e2, b3, more (i + 2) false ht g1 (by rw [show acc ++ x :: ks = acc ++ [x] ++ ks by simp]; exact r1), ⟨by omega, by omega⟩, ⟨r4, r5⟩, by simp, fun h => ?_⟩
     obtain ⟨t1, t2, t3⟩ := r7 h
     have hk := mT_kids x
     refine ⟨t1, by rw [mL_cons]; omega, fun h' h7 hf hm => ?_⟩
     rw [fL_cons2, Bool.and_eq_true] at hf
     rw [mL_cons] at hm
     rw [e1, q3 h' h7 hf.1 (by omega), t3 h' h7 hf.2 (by omega), kidsL_cons]
     simp
   ·rw [if_neg c] at ht
    obtain ⟨x, j, e, b2, g1, ⟨g2, g3⟩, ⟨g4, g5⟩, g6, g7⟩ := G i true hi
    obtain rfl := g6 rfl
    obtain ⟨j2, k1, k2, k3⟩ := kids_bad s hs n (acc ++ [x]) j d e (by omega) g4 g5
    exact ⟨[x], j2, e - 1, true, more i true ht g1 k1, ⟨by omega, by omega⟩, ⟨by omega, by omega⟩, by simp, fun h => by cases h⟩
theorem gate_in {s : ByteArray} {i d : Nat} (hd : d + 1 ≤ 40) {R} (h : Ev (fun k => spec_l02Reader_gate.j0 k false s (i : Int) ((d + 1 : Nat) : Int) false) R) : Ev (fun k => spec_l02Reader_gate.f k s (i : Int) (d : Int) false) R :=
 Ev.step (fun k => by
  simp only [spec_l02Reader_gate.f, Bool.false_eq_true, if_false]
  rw [wr (by omega) (by omega), decide_eq_false (by omega)]
  rfl) h
theorem gate_node {s : ByteArray} {a j1 i2 d : Nat} {b1 b2 : Bool} {x : S46} {j e : Nat} {b3 : Bool} (h1 : a ≤ j1) (h2 : j1 ≤ s.size)
  (hb : b1 = !(numB ((s.data.toList.drop a).take (j1 - a))).isSome) (hs : s.size ≤ 4000) (ht : spec_l02Reader_take.f s (j1 : Int) (d : Int) b1 (mkB [40]) = some (s, (i2 : Int), (d : Int), b2))
  (hg : Ev (fun k => spec_l02Reader_gate.f k s (i2 : Int) (d : Int) b2) (x.f0, x.f1, x.f2, s, (j : Int), (e : Int), b3)) {R} (hk : Ev (fun k => spec_l02Reader_gate.l1 k s (j : Int) (e : Int) b3 (-1) ((numB ((s.data.toList.drop a).take (j1 - a))).getD 0) [x]) R) :
  Ev (fun k => spec_l02Reader_gate.j3 k (a : Int) s (j1 : Int) (d : Int) false) R := by
 have hx : (s.extract a j1).data.toList = (s.data.toList.drop a).take (j1 - a) := Go.Lib.extract_data _ _ _
 have hn := spec_l01Number_ev (s.extract a j1) (by rw [size_data, hx, List.length_take, List.length_drop, ← size_data]; omega)
 rw [hx] at hn
 refine Ev.step (f := fun k => (spec_l01Number.f k (s.extract a j1)).bind fun bt320 => spec_l02Reader_gate.j4 k bt320.1 s (j1 : Int) (d : Int) (!bt320.2)) (fun k => ?_) (Ev.bind hn ?_)
 ·simp only [spec_l02Reader_gate.j3, Bool.false_eq_true, if_false]
  rw [if_pos (by omega), if_pos (by omega), if_pos (by omega)]
  rfl
 ·simp only [← hb]
  refine Ev.step (f := fun k => (spec_l02Reader_gate.f k s (i2 : Int) (d : Int) b2).bind fun bt327 => (if ([] : List S46).length < 3518437208883 then (spec_l02Reader_gate.l1 k bt327.2.2.2.1 bt327.2.2.2.2.1 bt327.2.2.2.2.2.1 bt327.2.2.2.2.2.2 (-1) ((numB ((s.data.toList.drop a).take (j1 - a))).getD 0) (([] : List S46) ++ [(⟨bt327.1, bt327.2.1, bt327.2.2.1⟩ : S46)])) else (none))) (fun k => ?_) (Ev.bind hg ?_)
  ·simp only [spec_l02Reader_gate.j4]
   rw [show (⟨#[40]⟩ : ByteArray) = mkB [40] from rfl, ht]
   rfl
  ·simp only [List.length_nil, if_pos (show 0 < 3518437208883 by decide), List.nil_append]
   rw [gate_eta]
   exact hk
theorem gate_low {s : ByteArray} {i d : Nat} (hi : i ≤ s.size) (hp : ¬ (65 ≤ pkB (s.data.toList.drop i) ∧ pkB (s.data.toList.drop i) ≤ 90)) {R} (h : Ev (fun k => spec_l02Reader_gate.l0 k (i : Int) s (i : Int) (d : Int) false) R) : Ev (fun k => spec_l02Reader_gate.j0 k false s (i : Int) (d : Int) false) R := by
 refine Ev.step (f := fun k => spec_l02Reader_gate.j1 k false s (i : Int) (d : Int) false) (fun k => ?_) (Ev.step (f := fun k => spec_l02Reader_gate.l0 k (i : Int) s (i : Int) (d : Int) false) (fun k => by simp only [spec_l02Reader_gate.j1, Bool.false_eq_true, if_false]) h)
 simp only [spec_l02Reader_gate.j0, Bool.false_eq_true, if_false]
 rw [peek_eq s i _ false hi]
 simp only [Option.bind_some]
 by_cases c : pkB (s.data.toList.drop i) ≥ 65
 ·rw [if_pos c, peek_eq s i _ false hi]
  simp only [Option.bind_some]
  rw [decide_eq_false (by omega)]
 ·rw [if_neg c]
theorem gate_leaf {s : ByteArray} {i d : Nat} (hs : s.size ≤ 4000) (hd : d + 1 ≤ 40) {c : UInt8} {r : List UInt8} (hi : i < s.size) (e : s.data.toList.drop i = c :: r) (hc : 65 ≤ c.toNat ∧ c.toNat ≤ 90) : Ev (fun k => spec_l02Reader_gate.j0 k false s (i : Int) ((d + 1 : Nat) : Int) false) ((c.toNat : Int) - 65, 0, [], s, ((i + 1 : Nat) : Int), (d : Int), false) := by
 have hp : ∀ (d : Int) (b : Bool), spec_l02Reader_peek.f s (i : Int) d b = some ((c.toNat : Int), s, (i : Int), d, b) := fun d b => by rw [peek_eq s i d b (by omega), e]; rfl
 refine Ev.step (f := fun k => spec_l02Reader_gate.j1 k true s (i : Int) ((d + 1 : Nat) : Int) false) (fun k => ?_) (Ev.step (f := fun _ => some ((c.toNat : Int) - 65, 0, ([] : List S46), s, ((i + 1 : Nat) : Int), (d : Int), false)) (fun k => ?_) (Ev.now _))
 ·simp only [spec_l02Reader_gate.j0, Bool.false_eq_true, if_false]
  rw [hp]
  simp only [Option.bind_some]
  rw [if_pos (by omega), hp]
  simp only [Option.bind_some]
  rw [decide_eq_true (by omega)]
 ·simp only [spec_l02Reader_gate.j1, if_true]
  rw [hp]
  simp only [Option.bind_some]
  rw [wr (x := (i : Int) + 1) (by omega) (by omega), wr (x := ((d + 1 : Nat) : Int) - 1) (by omega) (by omega), show ((c.toNat : Int) - 65) % 256 = (c.toNat : Int) - 65 by omega, show ((d + 1 : Nat) : Int) - 1 = (d : Int) by omega]
  rfl
theorem reader_ends (s : ByteArray) (hs : s.size ≤ 4000) : ∀ m d : Nat, d ≤ 41 → 41 - d ≤ m → ∀ (i : Nat) (b : Bool), i ≤ s.size → ∃ (x : S46) (j e : Nat) (b' : Bool), Ev (fun k => spec_l02Reader_gate.f k s (i : Int) (d : Int) b) (x.f0, x.f1, x.f2, s, (j : Int), (e : Int), b') ∧ left_ s.data.toList i d b x j e b' := by
 intro m
 have hsz := size_data s
 have now : ∀ (d i : Nat) (b : Bool), d ≤ 41 → i ≤ s.size → (b = true ∨ 40 < d + 1) → ∃ (x : S46) (j e : Nat) (b' : Bool), Ev (fun k => spec_l02Reader_gate.f k s (i : Int) (d : Int) b) (x.f0, x.f1, x.f2, s, (j : Int), (e : Int), b') ∧ left_ s.data.toList i d b x j e b' := by
  intro d i b hd hi hb
  refine ⟨⟨0, 0, []⟩, i, d + 1, true, Ev.step (f := fun k => spec_l02Reader_gate.j0 k true s (i : Int) ((d + 1 : Nat) : Int) b) (fun k => ?_) (Ev.step (f := fun _ => some (0, 0, ([] : List S46), s, (i : Int), ((d + 1 : Nat) : Int), true)) (fun k => by simp only [spec_l02Reader_gate.j0, if_true]) (Ev.now _)), ⟨by omega, by omega⟩, ⟨by omega, by omega⟩, fun _ => rfl, fun h => by cases h⟩
  simp only [spec_l02Reader_gate.f]
  rw [wr (by omega) (by omega)]
  cases b with
  | true => simp
  | false =>
   rcases hb with hb | hb
   ·cases hb
   ·simp only [Bool.false_eq_true, if_false]
    rw [decide_eq_true (by omega)]
    rfl
 induction m with
 | zero => intro d hd hm i b hi; exact now d i b hd hi (Or.inr (by omega))
 | succ m ih =>
  intro d hd hm i b hi
  by_cases hb : b = true ∨ 40 < d + 1
  ·exact now d i b hd hi hb
  obtain rfl : b = false := by cases b with
   | true => exact absurd (Or.inl rfl) hb
   | false => rfl
  have hd2 : d + 1 ≤ 40 := by
   rcases Nat.lt_or_ge 40 (d + 1) with h | h
   ·exact absurd (Or.inr h) hb
   ·exact h
  by_cases hp : 65 ≤ pkB (s.data.toList.drop i) ∧ pkB (s.data.toList.drop i) ≤ 90
  ·obtain ⟨c, r, e, e2⟩ := pkB_some (L := s.data.toList.drop i) (by omega)
   rw [e2] at hp
   have hi2 : i < s.size := by
    have := congrArg List.length e
    rw [List.length_drop, ← hsz, List.length_cons] at this
    omega
   refine ⟨⟨(c.toNat : Int) - 65, 0, []⟩, i + 1, d, false, gate_in hd2 (gate_leaf hs hd2 hi2 e ⟨by omega, by omega⟩), ⟨by omega, by omega⟩, ⟨by omega, by omega⟩, by simp, fun _ => ⟨rfl, by simp only [mL]; omega, fun h _ _ _ => ?_⟩⟩
   have er : s.data.toList.drop (i + 1) = r := by
    have := congrArg (List.drop 1) e
    rwa [List.drop_drop] at this
   rw [er, e, tl_leaf rfl, let_back]
   rfl
  ·obtain ⟨j1, h1, h2, h3⟩ := digits_pass s hs (i : Int) ((d + 1 : Nat) : Int) false (s.size - i) i (by omega)
   have run : ∀ {R}, Ev (fun k => spec_l02Reader_gate.j3 k (i : Int) s (j1 : Int) ((d + 1 : Nat) : Int) false) R → Ev (fun k => spec_l02Reader_gate.f k s (i : Int) (d : Int) false) R := fun {R} hR => gate_in hd2 (gate_low hi hp (h3 hR))
   obtain ⟨w, hw⟩ : ∃ w, w = (s.data.toList.drop i).take (j1 - i) := ⟨_, rfl⟩
   obtain ⟨b1, hb1⟩ : ∃ b1, b1 = !(numB w).isSome := ⟨_, rfl⟩
   have ht := take_eq s j1 ((d + 1 : Nat) : Int) b1 [40] h2 hs (by simp)
   obtain ⟨i2, b2, ht2, k1, k2, k3, k4⟩ : ∃ (i2 : Nat) (b2 : Bool), spec_l02Reader_take.f s (j1 : Int) ((d + 1 : Nat) : Int) b1 (mkB [40]) = some (s, (i2 : Int), ((d + 1 : Nat) : Int), b2) ∧ j1 ≤ i2 ∧ i2 ≤ s.size ∧ (b1 = true → b2 = true) ∧ (b2 = false → j1 + 1 = i2 ∧ s.data.toList.drop j1 = 40 :: s.data.toList.drop i2) := by
    by_cases c : (s.data.toList.drop j1).take [(40 : UInt8)].length = [40]
    ·rw [if_pos c] at ht
     have e1 := take_hit c
     have hl := congrArg List.length e1
     rw [List.length_append, List.length_drop, ← hsz] at hl
     simp only [List.length_singleton] at hl e1
     exact ⟨j1 + 1, b1, ht, by omega, by omega, fun h => h, fun _ => ⟨rfl, e1⟩⟩
    ·rw [if_neg c] at ht
     exact ⟨j1, true, ht, by omega, by omega, fun _ => rfl, fun h => by cases h⟩
   obtain ⟨x, j, e, b3, g1, ⟨g2, g3⟩, ⟨g4, g5⟩, g6, g7⟩ := ih (d + 1) (by omega) (by omega) i2 b2 k2
   rw [← hsz] at g3
   cases b3 with
   | true =>
    obtain ⟨j2, q1, q2, q3⟩ := kids_bad s hs ((numB w).getD 0) [x] j d e g3 g4 g5
    exact ⟨⟨-1, (numB w).getD 0, [x]⟩, j2, e - 1, true, run (gate_node h1 h2 (by rw [← hw]; exact hb1) hs ht2 g1 (by rw [← hw]; exact q1)), ⟨by omega, by omega⟩, ⟨by omega, by omega⟩, by simp, fun h => by cases h⟩
   | false =>
    obtain ⟨q1, q2, q3⟩ := g7 rfl
    subst q1
    obtain ⟨ks, j2, e2, b4, r1, ⟨r2, r3⟩, ⟨r4, r5⟩, r6, r7⟩ := kids_ends s hs d (by omega) (fun i b hi => ih (d + 1) (by omega) (by omega) i b hi) ((numB w).getD 0) (s.size - j + 1) j [x] (by omega) g3 (by rw [List.length_singleton]; omega)
    refine ⟨⟨-1, (numB w).getD 0, x :: ks⟩, j2, e2, b4, run (gate_node h1 h2 (by rw [← hw]; exact hb1) hs ht2 g1 (by rw [← hw]; exact r1)), ⟨by omega, r3⟩, ⟨r4, r5⟩, by simp, fun h => ?_⟩
    obtain ⟨t1, t2, t3⟩ := r7 h
    have hk := mT_kids x
    have hb2 : b2 = false := by cases hq : b2 with
     | false => rfl
     | true => exact absurd (g6 hq) (by simp)
    obtain ⟨p1, p2⟩ := k4 hb2
    have hb1f : b1 = false := by cases hq : b1 with
     | false => rfl
     | true => rw [k3 hq] at hb2; cases hb2
    refine ⟨t1, by simp only [mL]; omega, fun h' h7 hf hm => ?_⟩
    have e0 : (⟨-1, (numB w).getD 0, x :: ks⟩ : S46).f2 = x :: ks := rfl
    obtain ⟨f1, f2, f3⟩ := inner_facts hf hm e0
    rw [fL_cons2, Bool.and_eq_true] at f3
    have hm2 : mL (x :: ks) ≤ 98 := by rw [mT_kids] at hm; exact hm
    rw [mL_cons] at hm2
    cases hn : numB w with
    | none => rw [hn] at hb1; simp [hb1f] at hb1
    | some v =>
     rw [hn] at f2
     simp only [Option.getD_some] at f2
     have hwd := (numB_dig hn f2.2).1
     rw [tl_inner (x := (⟨-1, (some v).getD 0, x :: ks⟩ : S46)) (z := x) (r := ks) rfl]
     simp only [Option.getD_some]
     have e1 := (List.take_append_drop (j1 - i) (s.data.toList.drop i)).symm
     rw [← hw, hwd, List.drop_drop, show i + (j1 - i) = j1 by omega, p2, q3 h' h7 f3.1 (by omega), t3 h' h7 f3.2 (by omega)] at e1
     rw [e1]
     simp
end Go.Proofs.YtijmdlhcidjpmaaDoor.P

namespace Go.Proofs.YtijmdlhcidjpmaaDoor.P
open Go.RowKit Go.Proofs.YtijmdlhcidjpmaaDoorW.PrintWords Go.Proofs.YtijmdlhcidjpmaaDoorW.PrintLast Go.Proofs.YtijmdlhcidjpmaaDoorW.PrintMore
attribute [local go_sem] max2_int min2_int max_two min_two max_three min_three max_four min_four
set_option linter.unusedVariables false
set_option linter.unusedSimpArgs false
theorem reader_back (s : ByteArray) (hs : s.size ≤ 4000) (h : Int) (hh : h ≤ 7) : ∀ (n : Nat) (x : S46), mT x ≤ n → n ≤ 98 → fT h x = true → ∀ (i d : Nat) (R : List UInt8), d + dT x ≤ 40 → s.data.toList.drop i = tl x ++ R → i ≤ s.size → Ev (fun k => spec_l02Reader_gate.f k s (i : Int) (d : Int) false) (x.f0, x.f1, x.f2, s, ((i + (tl x).length : Nat) : Int), (d : Int), false) := by
  have hsz := size_data s
  have leaf : ∀ x : S46, x.f2 = [] → fT h x = true → ∀ (i d : Nat) (R : List UInt8), d + dT x ≤ 40 → s.data.toList.drop i = tl x ++ R → Ev (fun k => spec_l02Reader_gate.f k s (i : Int) (d : Int) false) (x.f0, x.f1, x.f2, s, ((i + (tl x).length : Nat) : Int), (d : Int), false) := by
    intro x e hf i d R hd he
    obtain ⟨h1, h2⟩ := leaf_facts hh hf e
    obtain ⟨b, e1, e2⟩ := leaf_byte e h1
    have hdx : 1 ≤ dT x := by rw [dT_parts]; omega
    rw [e1, List.singleton_append] at he
    have hi : i < s.size := by
      have := congrArg List.length he
      rw [List.length_drop, ← hsz, List.length_cons] at this
      omega
    have := gate_in (d := d) (by omega) (gate_leaf (d := d) hs (by omega) hi he ⟨by omega, by omega⟩)
    rw [e1, e, h2, List.length_singleton]
    rw [show (b.toNat : Int) - 65 = x.f0 by omega] at this
    exact this
  intro n
  induction n with
  | zero =>
    intro x hx _ hf i d R hd he _
    have hk := mT_kids x
    cases e : x.f2 with
    | nil => rw [← e]; exact leaf x e hf i d R hd he
    | cons z r => rw [e, mL_cons] at hk; omega
  | succ n ih =>
    intro x hx hn hf i d R hd he hi
    cases e : x.f2 with
    | nil => rw [← e]; exact leaf x e hf i d R hd he
    | cons z r =>
      obtain ⟨h1, h2, h3⟩ := inner_facts hf (by omega) e
      have hk := mT_kids x
      have hdx := dT_parts x
      obtain ⟨c, cs, e1, e2, e3⟩ := dig_head h2.1 h2.2
      have hc : 48 ≤ c.toNat ∧ c.toNat ≤ 57 := by simpa [isDig] using e2
      have et : tl x ++ R = dig x.f1 ++ 40 :: (tl z ++ (kidsL r ++ 41 :: R)) := by rw [tl_inner e]; simp
      have etl : (tl x).length = (dig x.f1).length + (1 + (tl z).length + (kidsL r).length + 1) := by rw [tl_inner e]; simp; omega
      rw [et] at he
      have hdepth : ∀ y ∈ x.f2, dT y ≤ dL x.f2 := by
        intro y hy
        have := (dL_le x.f2 (dL x.f2)).symm.trans (decide_eq_true (Nat.le_refl _))
        simpa using List.all_eq_true.mp this y hy
      have hml : ∀ p q : List S46, mL (p ++ q) = mL p + mL q := by
        intro p q
        induction p with
        | nil => simp [mL]
        | cons u p ihp => rw [List.cons_append, mL_cons, mL_cons, ihp]; omega
      have hfa : ∀ (p q : List S46) (y : S46), p ++ y :: q = x.f2 → fT h y = true ∧ mT y ≤ n ∧ d + 1 + dT y ≤ 40 := by
        intro p q y hp
        have h4 := h3
        rw [← e, ← hp, fL_all, List.all_append, Bool.and_eq_true] at h4
        simp only [List.all_cons, Bool.and_eq_true] at h4
        have hsz : mL x.f2 = mL p + (1 + mT y + mL q) := by rw [← hp, hml, mL_cons]
        have := hdepth y (by rw [← hp]; simp)
        exact ⟨h4.2.1, by omega, by omega⟩
      have kids : ∀ (r : List S46) (pre : List S46) (i : Nat), pre ++ r = x.f2 → s.data.toList.drop i = kidsL r ++ 41 :: R → i ≤ s.size → Ev (fun k => spec_l02Reader_gate.l1 k s (i : Int) ((d + 1 : Nat) : Int) false (-1) x.f1 pre) (-1, x.f1, x.f2, s, ((i + (kidsL r).length + 1 : Nat) : Int), (d : Int), false) := by
        intro r
        induction r with
        | nil =>
          intro pre i hp he hi
          have e5 : s.data.toList.drop i = 41 :: R := he
          have ht := take_eq s i ((d + 1 : Nat) : Int) false [41] hi hs (by simp)
          rw [if_pos (by rw [e5]; rfl)] at ht
          simp only [List.length_singleton] at ht
          refine Ev.step (f := fun k => spec_l02Reader_gate.j6 k false s (i : Int) ((d + 1 : Nat) : Int) false (-1) x.f1 pre) (fun k => ?_) (Ev.step (f := fun _ => some (-1, x.f1, x.f2, s, ((i + (kidsL []).length + 1 : Nat) : Int), (d : Int), false)) (fun k => ?_) (Ev.now _))
          · simp only [spec_l02Reader_gate.l1, Bool.false_eq_true, if_false]
            rw [peek_eq s i _ false hi, e5]
            rfl
          · simp only [spec_l02Reader_gate.j6, Bool.false_eq_true, if_false]
            rw [show (⟨#[41]⟩ : ByteArray) = mkB [41] from rfl, ht]
            simp only [Option.bind_some]
            rw [wr (by omega) (by omega), show ((d + 1 : Nat) : Int) - 1 = (d : Int) by omega, ← hp, List.append_nil]
            rfl
        | cons y r ihr =>
          intro pre i hp he hi
          have e5 : s.data.toList.drop i = 44 :: 32 :: (tl y ++ (kidsL r ++ 41 :: R)) := by rw [he, kidsL_cons]; simp
          have hl := congrArg List.length e5
          rw [List.length_drop, ← hsz, List.length_cons, List.length_cons, List.length_append] at hl
          have ht := take_eq s i ((d + 1 : Nat) : Int) false [44, 32] hi hs (by simp)
          rw [if_pos (by rw [e5]; rfl)] at ht
          simp only [List.length_cons, List.length_nil] at ht
          obtain ⟨f1, f2, f3⟩ := hfa pre r y hp
          have e6 : s.data.toList.drop (i + 2) = tl y ++ (kidsL r ++ 41 :: R) := by
            have := congrArg (List.drop 2) e5
            rwa [List.drop_drop] at this
          have one := ih y f2 (by omega) f1 (i + 2) (d + 1) (kidsL r ++ 41 :: R) f3 e6 (by omega)
          have e7 : s.data.toList.drop (i + 2 + (tl y).length) = kidsL r ++ 41 :: R := by
            have := congrArg (List.drop (tl y).length) e6
            rwa [List.drop_drop, List.drop_left] at this
          have two := ihr (pre ++ [y]) (i + 2 + (tl y).length) (by rw [← hp]; simp) e7 (by omega)
          have hpl : pre.length ≤ 98 := by
            have := mL_len x.f2
            rw [← hp, List.length_append] at this
            rw [hp] at this
            omega
          have eL : i + (kidsL (y :: r)).length + 1 = i + 2 + (tl y).length + (kidsL r).length + 1 := by rw [kidsL_cons]; simp; omega
          rw [eL]
          refine Ev.step (f := fun k => spec_l02Reader_gate.j6 k true s (i : Int) ((d + 1 : Nat) : Int) false (-1) x.f1 pre) (fun k => ?_) (Ev.step (f := fun k => (spec_l02Reader_gate.f k s ((i + 2 : Nat) : Int) ((d + 1 : Nat) : Int) false).bind fun bt349 => (if pre.length < 3518437208883 then (spec_l02Reader_gate.l1 k bt349.2.2.2.1 bt349.2.2.2.2.1 bt349.2.2.2.2.2.1 bt349.2.2.2.2.2.2 (-1) x.f1 (pre ++ [(⟨bt349.1, bt349.2.1, bt349.2.2.1⟩ : S46)])) else none)) (fun k => ?_) (Ev.bind one ?_))
          · simp only [spec_l02Reader_gate.l1, Bool.false_eq_true, if_false]
            rw [peek_eq s i _ false hi, e5]
            rfl
          · simp only [spec_l02Reader_gate.j6, if_true]
            rw [show (⟨#[44, 32]⟩ : ByteArray) = mkB [44, 32] from rfl, ht]
            rfl
          · simp only [if_pos (show pre.length < 3518437208883 by omega)]
            rw [gate_eta]
            exact two
      have hl := congrArg List.length he
      rw [List.length_drop, ← hsz, List.length_append, List.length_cons, List.length_append] at hl
      obtain ⟨f1, f2, f3⟩ := hfa [] r z (by rw [e]; rfl)
      have q1 : s.data.toList.drop (i + (dig x.f1).length) = 40 :: (tl z ++ (kidsL r ++ 41 :: R)) := by
        have := congrArg (List.drop (dig x.f1).length) he
        rwa [List.drop_drop, List.drop_left] at this
      have q2 : s.data.toList.drop (i + (dig x.f1).length + 1) = tl z ++ (kidsL r ++ 41 :: R) := by
        have := congrArg (List.drop 1) q1
        rwa [List.drop_drop] at this
      have q3 : s.data.toList.drop (i + (dig x.f1).length + 1 + (tl z).length) = kidsL r ++ 41 :: R := by
        have := congrArg (List.drop (tl z).length) q2
        rwa [List.drop_drop, List.drop_left] at this
      have hw : (s.data.toList.drop i).take (i + (dig x.f1).length - i) = dig x.f1 := by
        rw [he, show i + (dig x.f1).length - i = (dig x.f1).length by omega, List.take_left]
      have hnum := (dig_facts h2.1 h2.2).1
      have ht := take_eq s (i + (dig x.f1).length) ((d + 1 : Nat) : Int) false [40] (by omega) hs (by simp)
      rw [if_pos (by rw [q1]; rfl)] at ht
      simp only [List.length_singleton] at ht
      have one := ih z f2 (by omega) f1 (i + (dig x.f1).length + 1) (d + 1) (kidsL r ++ 41 :: R) f3 q2 (by omega)
      have run := kids r [z] (i + (dig x.f1).length + 1 + (tl z).length) (by rw [e]; rfl) q3 (by omega)
      have eL : i + (tl x).length = i + (dig x.f1).length + 1 + (tl z).length + (kidsL r).length + 1 := by omega
      rw [eL, ← e, h1]
      refine gate_in (by have : 1 ≤ dT x := by rw [dT_parts]; omega
                         omega) (gate_low hi (by rw [he, e1]; simp only [List.cons_append, pkB]; omega) (digits_to s hs (i : Int) ((d + 1 : Nat) : Int) false 40 (by decide) _ _ i he (dig_facts h2.1 h2.2).2.1 (gate_node (b1 := false) (by omega) (by omega) (by rw [hw, hnum]; rfl) hs ht one (by rw [hw, hnum]; exact run))))
theorem spec_ReadGate_gives (h : Int) (hh : 1 ≤ h ∧ h ≤ 7) (s : ByteArray) (hs : s.size ≤ 4000) :
    (∃ x, okT h x = true ∧ txT x = s ∧ Ev (fun k => spec_ReadGate.f k h s) (x.f0, x.f1, x.f2, 0)) ∨ ((∀ x, okT h x = true → txT x ≠ s) ∧ Ev (fun k => spec_ReadGate.f k h s) (0, 0, [], 5)) := by
  have hsz := size_data s
  have hstep : ∀ {R : Int × Int × List S46 × Int}, Ev (fun k => (spec_l02Reader_gate.f k s 0 0 false).bind fun p => spec_ReadGate.e k h s p.1 p.2.1 p.2.2.1 p.2.2.2.2.1 p.2.2.2.2.2.2) R → Ev (fun k => spec_ReadGate.f k h s) R := by
    intro R hR
    refine Ev.congr (fun k => ?_) hR
    unfold spec_ReadGate.f
    rw [spec_l00In_eq, decide_eq_true hh]
    simp only [Option.bind_some, if_true]
    rw [if_neg (by omega)]
  obtain ⟨x, j, e, b, hr, ⟨_, hj⟩, _, _, hgood⟩ := reader_ends s hs 41 0 (by omega) (by omega) 0 false (by omega)
  have hr' : Ev (fun k => spec_l02Reader_gate.f k s 0 0 false) (x.f0, x.f1, x.f2, s, (j : Int), (e : Int), b) := hr
  have only : ∀ y, okT h y = true → txT y = s → x = y ∧ j = s.size ∧ b = false := by
    intro y hy he
    have htl : tl y = s.data.toList := by unfold tl; rw [he]
    have hd12 : dT y ≤ 12 := by
      have := hy
      unfold okT at this
      simp only [Bool.and_eq_true, decide_eq_true_eq] at this
      exact this.2.2.1
    have back := reader_back s hs h hh.2 59 y (okT_text hy).1 (by omega) (okT_text hy).2 0 0 [] (by omega) (by rw [List.append_nil, List.drop_zero, htl]) (by omega)
    have e3 := ev_one hr back
    simp only [Prod.mk.injEq, Nat.zero_add, Int.natCast_inj] at e3
    refine ⟨?_, by rw [e3.2.2.2.2.1, htl, ← hsz], e3.2.2.2.2.2.2⟩
    rw [← gate_eta x, e3.1, e3.2.1, e3.2.2.1, gate_eta]
  cases b with
  | true =>
    refine Or.inr ⟨fun y hy he => (by have := (only y hy he).2.2; cases this), hstep (Ev.bind hr' ?_)⟩
    unfold spec_ReadGate.e
    simp only [if_true]
    exact Ev.now _
  | false =>
    obtain ⟨_, hm, hsound⟩ := hgood rfl
    by_cases hz : j = s.size
    · have hok := spec_l02Ok_ev h x (by rw [mT_kids]; omega)
      have hok' : Ev (fun k => spec_l02Ok.f k h (⟨x.f0, x.f1, x.f2⟩ : S46)) (okT h x) := by rw [gate_eta]; exact hok
      cases hv : okT h x with
      | true =>
        have ht := hsound h hh.2 (okT_text hv).2 (by have := (okT_text hv).1; omega)
        rw [List.drop_zero, hz, List.drop_eq_nil_of_le (by omega), List.append_nil] at ht
        refine Or.inl ⟨x, hv, bytes_ext ht.symm, hstep (Ev.bind hr' ?_)⟩
        unfold spec_ReadGate.e
        simp only [Bool.false_eq_true, if_false, hz, if_true]
        rw [hv] at hok'
        exact Ev.bind hok' (by simp only [if_true]; exact Ev.now _)
      | false =>
        refine Or.inr ⟨fun y hy he => ?_, hstep (Ev.bind hr' ?_)⟩
        · have := (only y hy he).1
          rw [this, hy] at hv
          cases hv
        · unfold spec_ReadGate.e
          simp only [Bool.false_eq_true, if_false, hz, if_true]
          rw [hv] at hok'
          exact Ev.bind hok' (by simp only [Bool.false_eq_true, if_false]; exact Ev.now _)
    · refine Or.inr ⟨fun y hy he => hz (only y hy he).2.1, hstep (Ev.bind hr' ?_)⟩
      unfold spec_ReadGate.e
      simp only [Bool.false_eq_true, if_false, if_neg (show ¬ ((j : Int) = (s.size : Int)) by omega)]
      exact Ev.now _
theorem both_ReadGate (h : Int) (s : ByteArray) : ∃ r1 r2 r3 r4, Ev (fun k => spec_ReadGate.f k h s) (r1, r2, r3, r4) ∧ Ev (fun k => impl_ReadGate.f k h s) (r1, r2, r3, r4) ∧ mL r3 ≤ 1048576 := by
  by_cases hh : 1 ≤ h ∧ h ≤ 7
  · by_cases hs : s.size ≤ 4000
    · rcases spec_ReadGate_gives h hh s hs with ⟨x, h1, h2, h3⟩ | ⟨h1, h2⟩
      · rcases impl_ReadGate_gives h hh s hs with ⟨y, k1, k2, k3⟩ | ⟨k1, k2⟩
        · obtain rfl := txT_inj h1 k1 (h2.trans k2.symm)
          have := (okT_text h1).1
          rw [mT_kids] at this
          exact ⟨_, _, _, _, h3, k3, by omega⟩
        · exact absurd h2 (k1 x h1)
      · rcases impl_ReadGate_gives h hh s hs with ⟨y, k1, k2, k3⟩ | ⟨k1, k2⟩
        · exact absurd k2 (h1 y k1)
        · exact ⟨_, _, _, _, h2, k2, by simp [mL]⟩
    · refine ⟨0, 0, [], 2, Ev.congr (f := fun _ => some (0, 0, [], 2)) (fun k => ?_) (Ev.now _), Ev.congr (f := fun k => impl_ReadGate.j0 k h s true) (fun k => ?_) (Ev.step (f := fun _ => some (0, 0, [], 2)) (fun k => by simp only [impl_ReadGate.j0, if_true]) (Ev.now _)), by simp [mL]⟩
      · unfold spec_ReadGate.f
        rw [spec_l00In_eq, decide_eq_true hh]
        simp only [Option.bind_some, if_true]
        rw [if_pos (by omega)]
      · unfold impl_ReadGate.f
        rw [impl_within_eq, decide_eq_true hh]
        simp only [Option.bind_some, if_true]
        rw [decide_eq_true (by omega)]
  · refine ⟨0, 0, [], 2, Ev.congr (f := fun _ => some (0, 0, [], 2)) (fun k => ?_) (Ev.now _), Ev.congr (f := fun k => impl_ReadGate.j0 k h s true) (fun k => ?_) (Ev.step (f := fun _ => some (0, 0, [], 2)) (fun k => by simp only [impl_ReadGate.j0, if_true]) (Ev.now _)), by simp [mL]⟩
    · unfold spec_ReadGate.f
      rw [spec_l00In_eq, decide_eq_false hh]
      simp only [Option.bind_some, Bool.false_eq_true, if_false]
    · unfold impl_ReadGate.f
      rw [impl_within_eq, decide_eq_false hh]
      simp only [Option.bind_some, Bool.false_eq_true, if_false]
end Go.Proofs.YtijmdlhcidjpmaaDoor.P

/- For every text the program's ReadGate and the reference's read alike, and the result is memory of its own. -/
namespace Go.Proofs.YtijmdlhcidjpmaaDoor.Pure
open Go.RowKit Go.Proofs.YtijmdlhcidjpmaaDoor.P Go.Proofs.YtijmdlhcidjpmaaDoorW.PrintWords Go.Proofs.YtijmdlhcidjpmaaDoorW.PrintLast Go.Proofs.YtijmdlhcidjpmaaDoorW.PrintMore
set_option linter.unusedVariables false
set_option linter.unusedSimpArgs false
theorem FnExactReadGate : laws_FnExactReadGate.Pure := by
 intro a0 a1 _ _
 by_cases h : (a1.size : Int) ≤ 1048576
 ·obtain ⟨r1, r2, r3, r4, e1, e2, z⟩ := both_ReadGate a0 a1
  obtain ⟨k, b1, b2, b3, b4, b5⟩ := From.now (From.and e1 (From.and e2 (From.and (eqGate_same r1 r2 r3 z) (From.and (markGate_ev r1 r2 r3 z) (heldGate_ev r1 r2 r3 z)))))
  exact Or.inr ⟨k, r1, r2, r3, r4, _, _, decide_eq_false (by omega), decide_eq_false (by omega), b1, b2, b3, b4, b5, decide_eq_false (by omega), b2, b3, b5, decide_eq_false (by omega)⟩
 ·exact Or.inl ⟨0, decide_eq_true (by omega), decide_eq_true (by omega)⟩
end Go.Proofs.YtijmdlhcidjpmaaDoor.Pure

namespace Go.Proofs.YtijmdlhcidjpmaaDoor.P
open Go.RowKit Go.Proofs.YtijmdlhcidjpmaaDoorW.PrintWords Go.Proofs.YtijmdlhcidjpmaaDoorW.PrintLast Go.Proofs.YtijmdlhcidjpmaaDoorW.PrintMore
attribute [local go_sem] max2_int min2_int max_two min_two max_three min_three max_four min_four
set_option linter.unusedVariables false
set_option linter.unusedSimpArgs false
section
variable {H : Type} {enc : TypeId × Value → H}
theorem handed_and_shaped {a : Assume} {C : Checked} {os : Os} {f : FuncId} {fn : Func} {s : ChangeSpec} {conds : List PathCond} {apart fresh handsOn again : Bool} {X : World → Array Value → Prop}
  (hX : ∀ (w w' : World) (args : Array Value), w.heap = w'.heap → X w args → X w' args)
  (own : ownKnob C.prog.godebug = none) (started : os.Started) (noInit : C.prog.inits.idxOf? f = none) (hfn : C.prog.funcs[f]? = some fn)
  (witness : ∃ (w : World) (tape : Tape) (i : Input), w.os = os ∧ (w.forCall tape i).Shaped C.prog ∧ i.vars = [] ∧ Input.okWide C.prog (w.forCall tape i) .any w.heap.size f i ∧
   ((s.pre enc C.prog fn conds apart (w.forCall tape i).memory i.args ∧ X (w.forCall tape i).memory i.args) ∧ sizedMet enc C.prog fn (OpenSpec.ofChange s) apart (w.forCall tape i).memory i.args) ∧ a.holds C.prog (lone (Frame.enter C.prog f i.args .normal) [] (w.forCall tape i)))
  (contract : ∀ (W : World) (base : Nat) (args : Array Value) (ds gs : List (DataW H)) (before : List MemPlace),
   (∀ (j : Nat) t v, fn.params[j]? = some t → args[j]? = some v → Value.okWide C.prog W .any base t v) →
   DataW.Whole enc C.prog fn.params.toList s.vars apart W args.toList ds gs before →
   conds.all (PathCond.test C.prog ⟨fn.params.toList, ds, s.plain.varTypes C.prog, gs⟩) = true →
   W.ShapedOpen C.prog → X W args →
   a.holds C.prog (lone (Frame.enter C.prog f args .normal) [] W) →
   Calls C.prog f args W fun e W' => ∃ v, e = .returned v ∧ s.post enc C.prog fn apart fresh handsOn again W args v W') :
  ReturnsInHanded a C os f .any (fun w args => (s.pre enc C.prog fn conds apart w args ∧ X w args) ∧ sizedMet enc C.prog fn (OpenSpec.ofChange s) apart w args) (s.post enc C.prog fn apart fresh handsOn again) := by
 refine returnsInHanded_of_calls own started noInit witness ?_
 intro w tape i _ hsh _ hok hpre hholds
 obtain ⟨_, _, _, fn', hfn', _, _, _, _, hval⟩ := hok
 have e : fn' = fn := Option.some.inj (hfn'.symm.trans hfn)
 subst e
 obtain ⟨⟨⟨ds, gs, before, hw, hc⟩, hx⟩, _⟩ := hpre
 have hw' := DataW.Whole.of_heap (w' := w.forCall tape i) (by rfl) hw
 refine (contract (w.forCall tape i) w.heap.size i.args ds gs before hval hw' hc hsh (hX _ _ _ (by rfl) hx) hholds).mono fun e W' ⟨v, he, hp⟩ => ?_
 subst he
 exact ChangeSpec.post_blind hp
end
theorem errStar : "*" ++ "errors.errorString" = "*errors.errorString" := by decide
theorem errRow (u : TypeId) (h : Tryd.prog.typeName? 3 u = some "*errors.errorString") : u = 185 :=
 typeName_ptr_named (nm := "errors.errorString") (by rw [errStar]; kernel_rfl) (by kernel_rfl) (by decide) u (by rw [errStar]; exact h)
theorem glob_of {W : World} {t0 t1 : List UInt8} {r : List (String × DataW Unit)} (hS : W.ShapedOpen Tryd.prog) (hT : Go.Lib.TabIs Tryd.prog W "internal/strconv.uint64pow10" .u64 Go.Lib.pow10Tab)
  (hL : laidMet Tryd.prog (("strconv.ErrRange", .iface "*errors.errorString" (.ptr (.agg [.lit (.string t0)]))) :: ("strconv.ErrSyntax", .iface "*errors.errorString" (.ptr (.agg [.lit (.string t1)]))) :: r) W) : Glob W := by
 have hm := cell_of_shapedOpen_int (P := Tryd.prog) (g := 3) (t := 3) (k := .i64) (zero := #[.int .i64 0]) hS (of_decide_eq_true (by kernel_rfl)) (by kernel_rfl) rfl (by kernel_rfl) (by kernel_rfl) Tryd.underlying3
 have g0 : Tryd.prog.globalNamed "strconv.ErrRange" = some 1 := by kernel_rfl
 have g1 : Tryd.prog.globalNamed "strconv.ErrSyntax" = some 0 := by kernel_rfl
 obtain ⟨a0, a1, _, _, _, _, _, _, h0, h1, _⟩ := laid_sentinels2 (g0 := 1) (g1 := 0) (ti := 102) (tp := 185) (te := 187) (ts := 9) hL g0 (by kernel_rfl) g1 (by kernel_rfl) Tryd.underlying102 errRow Tryd.underlying185 Tryd.underlying187 rfl rfl Tryd.underlying9 (by kernel_rfl) (by kernel_rfl)
 exact ⟨hm, ⟨_, World.var?_cell g1 h1 0, Or.inr ⟨_, _, rfl⟩⟩, ⟨_, World.var?_cell g0 h0 0, Or.inr ⟨_, _, rfl⟩⟩, hT⟩
end Go.Proofs.YtijmdlhcidjpmaaDoor.P

/- The row of the law FnExactReadGate: whatever its arguments, it answers true, and they read as before. No condition. -/
namespace Go.Proofs.YtijmdlhcidjpmaaDoor.fnExactReadGate
open Go.ChangeShapes Go.WideShapes Go.ChangeAt Go.RowKit Go.Proofs.YtijmdlhcidjpmaaDoor.P Go.Proofs.YtijmdlhcidjpmaaDoorW.PrintWords Go.Proofs.YtijmdlhcidjpmaaDoorW.PrintLast Go.Proofs.YtijmdlhcidjpmaaDoorW.PrintMore
open Go.ChangeMaps (open_string shut_string)
set_option linter.unusedVariables false
theorem own : ownKnob Tryd.prog.godebug = none := by kernel_rfl
def laids : List (String × DataW Unit) := Rows.fnExactReadGateRow.laid
noncomputable def doorW (os : Os) : World :=
 { World.doorLaid Tryd.prog 400 os with heap := (World.doorLaid Tryd.prog 400 os).heap.modify 4 fun
   | .cells _ t fz => .cells (Go.Pinned.utf8FirstZ.map fun (n : Nat) => Value.int .u8 n).toArray t fz
   | o => o }
theorem door_met (os : Os) (args : Array Value) : laidMetH Tryd.prog laids ((doorW os).forCall (fun _ _ => 0) ⟨#[], args, []⟩).memory :=
 laidMetH_of_parts3 (fuel := 8) (laidMet_of_run' 8 (by kernel_rfl) (by kernel_rfl)) (by kernel_rfl) (by kernel_rfl)
theorem glob_met {W : World} (hS : W.ShapedOpen Tryd.prog) (hL : laidMetH Tryd.prog laids W) : P.Glob W := by
 have hL2 := (laidMetH_iff.1 (laidMetH.filter (fun x => x.1 == "strconv.ErrRange" || x.1 == "strconv.ErrSyntax") hL)).1
 have e : (laids.filter fun x => x.1 == "strconv.ErrRange" || x.1 == "strconv.ErrSyntax").filter (fun x => x.2.handleName?.isNone) = [("strconv.ErrRange", Rows.laid_strconv_ErrRange), ("strconv.ErrSyntax", Rows.laid_strconv_ErrSyntax)] := by kernel_rfl
 rw [e] at hL2
 have hL3 := (laidMetH_iff.1 (laidMetH.filter (fun x => x.1 == "internal/strconv.uint64pow10") hL)).1
 have e3 : (laids.filter fun x => x.1 == "internal/strconv.uint64pow10").filter (fun x => x.2.handleName?.isNone) = [("internal/strconv.uint64pow10", Go.Lib.tabData .u64 Go.Lib.pow10Tab)] := by kernel_rfl
 rw [e3] at hL3
 exact P.glob_of hS (Go.Lib.tabIs_of_head (g := 2) (t := 177) (e := 151) (n := 20) (by kernel_rfl) (by kernel_rfl) Tryd.underlying177 Tryd.underlying151 (by kernel_rfl) (by kernel_rfl) hL3) hL2
theorem laidOut : laidOutB Tryd.prog = true := by kernel_rfl
set_option maxRecDepth 100000 in
theorem lifted (os : Os) (started : os.Started) (H : Type) (enc : TypeId × Value → H) :
  ReturnsInHanded {} Tryd.checked os 6 .any (fun w args => (Rows.fnExactReadGateSpec.pre enc Tryd.prog Tryd.f6 Rows.fnExactReadGateRow.domain false w args ∧ laidMetH Tryd.prog laids w) ∧ sizedMet enc Tryd.prog Tryd.f6 (OpenSpec.ofChange Rows.fnExactReadGateSpec) false w args) (Rows.fnExactReadGateSpec.post enc Tryd.prog Tryd.f6 false true false false) := by
 refine P.handed_and_shaped (C := Tryd.checked) (X := fun w _ => laidMetH Tryd.prog laids w) (fun _ _ _ hh h => h.of_heap hh) own started (by kernel_rfl) Tryd.func6
  (ChangeSpec.witness_shaped (enc := enc) (C := Tryd.checked) (os := os) (X := fun w _ => laidMetH Tryd.prog laids w) false (doorW os) #[.int .i64 0, .string ByteArray.empty] 8 rfl (World.shaped_of_RefB (by kernel_rfl) (by kernel_rfl)) (by kernel_rfl) (by kernel_rfl) (by kernel_rfl) (door_met os _)) ?_
 intro W base args ds gs before hval0 hW _ hS hL _
 have hval : ∀ (j : Nat) t v, Tryd.f6.params[j]? = some t → args[j]? = some v → Value.okWide Tryd.prog W .any base t v := hval0
 have hW' := hW
 obtain ⟨p, q, hA0, hV, rfl, hfz, hnd⟩ := hW
 have hA : DataW.TrodAll enc Tryd.prog W 0 (fun _ => true) true Tryd.f6.params.toList args.toList ds p := hA0
 rw [Tryd.params6] at hA hval
 obtain ⟨v0, vs0, d0, ds0, p0, q0, hargs, rfl, rfl, h0, r0⟩ := trodAll_cons hA
 obtain ⟨v1, vs1, d1, ds1, p1, q1, rfl, rfl, rfl, h1, r1⟩ := trodAll_cons r0
 obtain ⟨rfl, rfl, rfl⟩ := trodAll_nil r1
 obtain rfl : args = #[v0, v1] := by cases args; simp_all
 obtain ⟨rfl, rfl⟩ := trodVars_none hV
 obtain ⟨a0, rfl, rfl, rfl, w0⟩ := open_int Tryd.underlying2 (hval 0 2 v0 rfl rfl) h0
 obtain ⟨a1, rfl, rfl, rfl, w1⟩ := open_string Tryd.underlying9 (hval 1 9 v1 rfl rfl) h1
 clear hA0 hval0
 refine (P.laws_FnExactReadGate.walk Pure.FnExactReadGate a0 a1  W  w0 w1 (glob_met hS hL)).mono fun e W' ⟨he, bel⟩ => ?_
 subst he
 exact ⟨_, rfl, _, _, _, [], _, [], hW', trodAll_mk1 (shut_bool Tryd.underlying4 _), (trodAll_cons_mk (shut_int Tryd.underlying2 w0) (trodAll_cons_mk (shut_string Tryd.underlying9 w1) trodAll_mk0)), rfl, bel.frame _, fun h => by cases h⟩
theorem over : Rows.fnExactReadGateRow.holds Tryd.pinned (OpenSpec.ofChange Rows.fnExactReadGateSpec) :=
 OpenClaim.holds_of_wide 6 Tryd.f6 rfl rfl rfl rfl rfl rfl rfl ⟨rfl, rfl, rfl, rfl, rfl⟩ rfl rfl rfl rfl rfl (by kernel_rfl) Tryd.func6 (by kernel_rfl)
  (of_decide_eq_true (by kernel_rfl)) (by unfold Func.isWrapper; first | (rw [if_pos (by decide +kernel)]; kernel_rfl) | (rw [if_neg (by decide +kernel)]; exact ⟨rfl, rfl⟩))
  (fun os started H enc _ => lifted os started H enc)
theorem proved : Rows.FnExactReadGateSaid := over
#print axioms proved
end Go.Proofs.YtijmdlhcidjpmaaDoor.fnExactReadGate
namespace Go.Proofs.YtijmdlhcidjpmaaDoor
theorem fnExactReadGate_holds : Rows.FnExactReadGateCardSaid :=
 Claim7.holds_tied_plain_at .later [] [.data, .data, .data, .sentinel, .sentinel] true (true, "76b177948d0ae43f40923df544757246c1822bc94295df3ba3acdd2cf38c500f") true
  fnExactReadGate.proved (fun _ h => by cases h) (by kernel_rfl) (fun _ h => by cases h) fnExactReadGate_row_tie rfl ⟨rfl, rfl⟩ (by kernel_rfl) rfl
  (fun f fn hf hfn => by
   obtain rfl : f = 6 := Option.some.inj ((show Tryd.prog.funcNamed "loop.example/g01117/laws.FnExactReadGate" = some 6 by kernel_rfl).symm.trans hf) |>.symm
   obtain rfl : fn = Tryd.f6 := (Option.some.inj (Tryd.func6.symm.trans hfn)).symm
   exact ⟨by kernel_rfl, fun j t ht => by
    rw [Tryd.params6] at ht
    have hm : t ∈ [2, 9] := by simpa using Array.mem_of_getElem? ht
    have hall : ([2, 9].all fun u => !Tryd.prog.wantsStandIn u) = true := by kernel_rfl
    exact (show Tryd.prog.wantsStandIn t = false by simpa using List.all_eq_true.1 hall t hm)⟩)
  (by kernel_rfl)
#print axioms fnExactReadGate_holds
end Go.Proofs.YtijmdlhcidjpmaaDoor
