/- For all schemes the program's EitherScheme and the reference's answer alike, the arguments stay, and the result is memory of its own. This text: part 4 of what it rests on: functions of the translation as plain Lean functions, and that the machine's calls come to their answers. -/
import Derived.Test.YtjpbemomocccaaaCFnExactEitherSchemec
namespace Go.Proofs.Ytjpbemomocccaaa.P
open Go.RowKit Go.Proofs.YtjpbemomocccaaaW.PrintWords Go.Proofs.YtjpbemomocccaaaW.PrintLast Go.Proofs.YtjpbemomocccaaaW.PrintMore
attribute [local go_sem] max2_int min2_int max_two min_two max_three min_three max_four min_four
set_option linter.unusedVariables false
set_option linter.unusedSimpArgs false
mutual
def impl_joined.j0 : Nat → Bool → Int → List Int → Int → Int → List (List Int) → Int → List Int → Int → Int → List (List Int) → Option (Int × List Int × Int × Int × (List (List Int)) × Int)
  | 0, _, _, _, _, _, _, _, _, _, _, _ => none
  | k + 1, x16, x768000, x768001, x768002, x768003, x768004, x769000, x769001, x769002, x769003, x769004 => if x16 = true then (some (0, ([] : List Int), 0, 0, ([] : List (List Int)), 1)) else (if x768000 = x769000 then (if x768002 = x769002 then ((slices_Clone_int64_int64.f x768001).bind fun t775 => (if t775.length + x769001.length < 17592186044416 then (impl_joined.l0 k x768004 (x768004.length : Int) 0 x768000 x768001 x768002 x768003 x768004 x769000 x769001 x769002 x769003 x769004 x768000 (t775 ++ x769001) x768002 (wrap64 ((wrap64 ((wrap64 ((wrap64 (((([0] : List Int)).length : Int) + x768003)) - 1)) + x769003)) - 1)) ([] : List (List Int))) else (none))) else (some (0, ([] : List Int), 0, 0, ([] : List (List Int)), 2))) else (some (0, ([] : List Int), 0, 0, ([] : List (List Int)), 2)))
def impl_joined.l0 : Nat → List (List Int) → Int → Int → Int → List Int → Int → Int → List (List Int) → Int → List Int → Int → Int → List (List Int) → Int → List Int → Int → Int → List (List Int) → Option (Int × List Int × Int × Int × (List (List Int)) × Int)
  | 0, _, _, _, _, _, _, _, _, _, _, _, _, _, _, _, _, _, _ => none
  | k + 1, x72, x73, x74, x768000, x768001, x768002, x768003, x768004, x769000, x769001, x769002, x769003, x769004, x782000, x782001, x782002, x782003, x782004 => if x74 < x73 then (if 0 ≤ x74 then (if x74 < (x72.length : Int) then (if 0 < ((rd_L1 x72 x74).length : Int) then (if 1 ≤ ((rd_L1 x72 x74).length : Int) then (if 0 ≤ (wrap64 (x769003 - 1)) then (if (wrap64 (x769003 - 1) : Int).toNat ≤ 35184372088832 then ((slices_Concat_int64_int64.f k (([(([rd (rd_L1 x72 x74) 0] : List Int)), ((rd_L1 x72 x74).drop 1), (List.replicate (wrap64 (x769003 - 1) : Int).toNat 0)] : List (List Int)))).bind fun t798 => (if x782004.length < 5864062014805 then (impl_joined.l0 k x72 x73 (wrap64 (x74 + 1)) x768000 x768001 x768002 x768003 x768004 x769000 x769001 x769002 x769003 x769004 x782000 x782001 x782002 x782003 (x782004 ++ [t798])) else (none))) else (none)) else (none)) else (none)) else (none)) else (none)) else (none)) else (impl_joined.l1 k x769004 (x769004.length : Int) 0 x768000 x768001 x768002 x768003 x768004 x782000 x782001 x782002 x782003 x782004)
def impl_joined.l1 : Nat → List (List Int) → Int → Int → Int → List Int → Int → Int → List (List Int) → Int → List Int → Int → Int → List (List Int) → Option (Int × List Int × Int × Int × (List (List Int)) × Int)
  | 0, _, _, _, _, _, _, _, _, _, _, _, _, _ => none
  | k + 1, x102, x103, x104, x768000, x768001, x768002, x768003, x768004, x782000, x782001, x782002, x782003, x782004 => if x104 < x103 then (if 0 ≤ x104 then (if x104 < (x102.length : Int) then (if 0 < ((rd_L1 x102 x104).length : Int) then (if 0 ≤ (wrap64 (x768003 - 1)) then (if (wrap64 (x768003 - 1) : Int).toNat ≤ 35184372088832 then (if 1 ≤ ((rd_L1 x102 x104).length : Int) then ((slices_Concat_int64_int64.f k (([(([rd (rd_L1 x102 x104) 0] : List Int)), (List.replicate (wrap64 (x768003 - 1) : Int).toNat 0), ((rd_L1 x102 x104).drop 1)] : List (List Int)))).bind fun t820 => (if x782004.length < 5864062014805 then (impl_joined.l1 k x102 x103 (wrap64 (x104 + 1)) x768000 x768001 x768002 x768003 x768004 x782000 x782001 x782002 x782003 (x782004 ++ [t820])) else (none))) else (none)) else (none)) else (none)) else (none)) else (none)) else (none)) else ((impl_schemeOrLimit.f k x782000 x782001 x782002 x782003 x782004).bind fun bt826 => (some (bt826.1, bt826.2.1, bt826.2.2.1, bt826.2.2.2.1, bt826.2.2.2.2.1, bt826.2.2.2.2.2)))
end
def impl_joined.f (k : Nat) (a0_0 : Int) (l0_1 : List Int) (a0_2 : Int) (a0_3 : Int) (l0_4 : List (List Int)) (a1_0 : Int) (l1_1 : List Int) (a1_2 : Int) (a1_3 : Int) (l1_4 : List (List Int)) : Option (Int × List Int × Int × Int × (List (List Int)) × Int) := (impl_ValidScheme.f k a0_0 l0_1 a0_2 a0_3 l0_4).bind fun t770 => (if t770 = true then ((impl_ValidScheme.f k a1_0 l1_1 a1_2 a1_3 l1_4).bind fun t771 => (impl_joined.j0 k (!t771) a0_0 l0_1 a0_2 a0_3 l0_4 a1_0 l1_1 a1_2 a1_3 l1_4)) else (impl_joined.j0 k true a0_0 l0_1 a0_2 a0_3 l0_4 a1_0 l1_1 a1_2 a1_3 l1_4))
def impl_joined.T6 : Bool × List (List Nat × List Nat) := (true, [([], []), ([0], [0]), ([], []), ([2], [2]), ([3], [3]), ([], []), ([5], [5]), ([4, 6, 4], [4, 6]), ([1, 7], [1, 7]), ([], []), ([9, 8, 7, 0, 1, 2, 3, 4, 5, 6, 7, 8, 9], [8, 9])])
def impl_joined.B6 : List Nat := [0, 1, 0, 4, 12, 0, 32, 124, 255, 0, 1023]
theorem impl_joined.tab6 : rtab .any (opsOf Try.f86 6) = impl_joined.T6 := by kernel_rfl
theorem impl_joined.bits6 : waitsOk impl_joined.T6.2 impl_joined.B6 = true := by kernel_rfl
def impl_joined.T11 : Bool × List (List Nat × List Nat) := (true, [([], []), ([0], [0]), ([1], [1]), ([], []), ([], []), ([4], [4]), ([5], [5]), ([3, 6], [3, 6]), ([], []), ([8], [8]), ([], []), ([10], [10]), ([11], [11]), ([12], [12]), ([13, 13], [13]), ([7, 9, 14], [7, 9, 14]), ([15, 7], [15]), ([16], [16]), ([2, 17, 16], [2, 17]), ([0, 1, 2, 3, 4, 5, 6, 7, 8, 9, 10, 11, 12, 13, 14, 15, 16, 17, 18], []), ([19, 0, 1, 2, 3, 4, 5, 6, 7, 8, 9, 10, 11, 12, 13, 14, 15, 16, 17, 18], [19]), ([20, 18, 18, 0, 1, 2, 3, 4, 5, 6, 7, 8, 9, 10, 11, 12, 13, 14, 15, 16, 17, 18], [18, 20])])
def impl_joined.B11 : List Nat := [0, 1, 3, 0, 0, 16, 48, 120, 0, 256, 0, 1024, 3072, 7168, 15360, 32760, 65528, 131064, 262143, 524287, 1048575, 2097151]
theorem impl_joined.tab11 : rtab .any (opsOf Try.f86 11) = impl_joined.T11 := by kernel_rfl
theorem impl_joined.bits11 : waitsOk impl_joined.T11.2 impl_joined.B11 = true := by kernel_rfl
def impl_joined.T16 : Bool × List (List Nat × List Nat) := (true, [([], []), ([0], [0]), ([1], [1]), ([], []), ([], []), ([4], [4]), ([5], [5]), ([3, 6], [3, 6]), ([], []), ([8], [8]), ([9], [9]), ([10], [10]), ([11, 11], [11]), ([], []), ([13], [13]), ([7, 12, 14], [7, 12, 14]), ([15, 7], [15]), ([16], [16]), ([2, 17, 16], [2, 17]), ([0, 1, 2, 3, 4, 5, 6, 7, 8, 9, 10, 11, 12, 13, 14, 15, 16, 17, 18], []), ([19, 0, 1, 2, 3, 4, 5, 6, 7, 8, 9, 10, 11, 12, 13, 14, 15, 16, 17, 18], [19]), ([20, 18, 18, 0, 1, 2, 3, 4, 5, 6, 7, 8, 9, 10, 11, 12, 13, 14, 15, 16, 17, 18], [18, 20])])
def impl_joined.B16 : List Nat := [0, 1, 3, 0, 0, 16, 48, 120, 0, 256, 768, 1792, 3840, 0, 8192, 32760, 65528, 131064, 262143, 524287, 1048575, 2097151]
theorem impl_joined.tab16 : rtab .any (opsOf Try.f86 16) = impl_joined.T16 := by kernel_rfl
theorem impl_joined.bits16 : waitsOk impl_joined.T16.2 impl_joined.B16 = true := by kernel_rfl
set_option maxHeartbeats 8000000 in
set_option maxRecDepth 100000 in
theorem impl_joined.calls (k : Nat) (a0_0 : Int) (A0_1 : Option Addr) (c0_1 : Nat) (l0_1 : List Int) (a0_2 : Int) (a0_3 : Int) (P0_4_ : Nat → Prop) (A0_4 : Option Addr) (c0_4 : Nat) (l0_4 : List (List Int)) (a1_0 : Int) (A1_1 : Option Addr) (c1_1 : Nat) (l1_1 : List Int) (a1_2 : Int) (a1_3 : Int) (P1_4_ : Nat → Prop) (A1_4 : Option Addr) (c1_4 : Nat) (l1_4 : List (List Int)) (r1 : Int) (r2 : List Int) (r3 : Int) (r4 : Int) (r5 : List (List Int)) (r6 : Int) (w : World) (hr0_1 : Kd.C (Kd.int .i64) w A0_1 l0_1.length l0_1) (hc0_1 : l0_1.length ≤ c0_1) (hs0_4 : Kd.V (Kd.slice 2 (Kd.int .i64)) 35 w w.heap.size (fun k_ => P0_4_ k_) (.slice A0_4 l0_4.length c0_4) l0_4) (hr1_1 : Kd.C (Kd.int .i64) w A1_1 l1_1.length l1_1) (hc1_1 : l1_1.length ≤ c1_1) (hs1_4 : Kd.V (Kd.slice 2 (Kd.int .i64)) 35 w w.heap.size (fun k_ => P1_4_ k_) (.slice A1_4 l1_4.length c1_4) l1_4) (h : impl_joined.f k a0_0 l0_1 a0_2 a0_3 l0_4 a1_0 l1_1 a1_2 a1_3 l1_4 = some (r1, r2, r3, r4, r5, r6)) :
  Calls Try.prog 86 #[.agg #[.int .i64 a0_0, .slice A0_1 l0_1.length c0_1, .int .i64 a0_2, .int .i64 a0_3, .slice A0_4 l0_4.length c0_4], .agg #[.int .i64 a1_0, .slice A1_1 l1_1.length c1_1, .int .i64 a1_2, .int .i64 a1_3, .slice A1_4 l1_4.length c1_4], .func (.func 85) #[] #[], .func (.func 85) #[] #[]] w fun e w' => ∃ v1_ v4_ : Value, e = .returned (.tuple #[.agg #[.int .i64 r1, v1_, .int .i64 r3, .int .i64 r4, v4_], .int .i64 r6]) ∧ Kd.R (Kd.int .i64) 2 w' w.heap.size (fun k_ => (w.heap.size ≤ k_)) v1_ r2 ∧ Kd.S (Kd.slice 2 (Kd.int .i64)) 35 w' w.heap.size (fun k_ => some k_ ≠ (v1_ : Value).ownBlock) v4_ r5 ∧ Below w.heap.size w w' := by
 have hu53 := Try.underlying53
 have eg : ∀ (args : Array Value) (w : World), (callFunc 85 args).run Try.prog w = .ok (.enter 85 args) w := enters_of Try.func85 (by kernel_rfl) rfl
 have hu26 := Try.underlying26
 have HR0_1 := Aside0.mk hr0_1
 have HC0_1 := Aside0.mk hc0_1
 clear hr0_1 hc0_1
 have HO0_4 := Aside0.mk (show Kd.V (Kd.slice 2 (Kd.int .i64)) 35 w w.heap.size (fun k_ => ((P0_4_ k_ ∨ P1_4_ k_) ∨ w.heap.size ≤ k_)) (.slice A0_4 l0_4.length c0_4) l0_4 from Kd.V_mono hs0_4 (fun k_ hk => .inl (.inl hk)))
 have HR1_1 := Aside0.mk hr1_1
 have HC1_1 := Aside0.mk hc1_1
 clear hr1_1 hc1_1
 have HO1_4 := Aside0.mk (show Kd.V (Kd.slice 2 (Kd.int .i64)) 35 w w.heap.size (fun k_ => ((P0_4_ k_ ∨ P1_4_ k_) ∨ w.heap.size ≤ k_)) (.slice A1_4 l1_4.length c1_4) l1_4 from Kd.V_mono hs1_4 (fun k_ hk => .inl (.inr hk)))
 have HB := Aside0.mk (Below.refl w.heap.size w)
 have H : ((impl_ValidScheme.f k a0_0 l0_1 a0_2 a0_3 l0_4).bind fun t770 => (if t770 = true then ((impl_ValidScheme.f k a1_0 l1_1 a1_2 a1_3 l1_4).bind fun t771 => (impl_joined.j0 k (!t771) a0_0 l0_1 a0_2 a0_3 l0_4 a1_0 l1_1 a1_2 a1_3 l1_4)) else (impl_joined.j0 k true a0_0 l0_1 a0_2 a0_3 l0_4 a1_0 l1_1 a1_2 a1_3 l1_4))) = some (r1, r2, r3, r4, r5, r6) := h
 clear h
 have HC3 := Aside0.mk H
 clear H
 go_enter Try.func86, Try.ntmps86
 go_upto_region 1 with (first | ((with_reducible refine gate_dst (N := 4) rfl ?_); refine box_event ?hg (N := 4) ?hd (cs := #[.int .i64 a0_0, .slice A0_1 l0_1.length c0_1, .int .i64 a0_2, .int .i64 a0_3, .slice A0_4 l0_4.length c0_4]) (t := 53) ?hr ?_; (case hd => rfl); (case hg => rfl); (case hr => first | (go_simp; done) | (go_simp; rfl)); intro gb767 hg w4 hbox hb; have n0_ := Aside0.mk (Kd.V_below (Kd.V_elderB HO0_4.out gb767 (Nat.le_of_eq hg.symm)) hb); have n1_ := Aside0.mk (Kd.V_below (Kd.V_elderB HO1_4.out gb767 (Nat.le_of_eq hg.symm)) hb); have n2_ := Aside0.mk (below_step HB.out hb); have n3_ := Aside0.mk (hbox); have n4_ := Aside0.mk ((by rw [hg]; exact (below_size HB.out) : w.heap.size ≤ gb767)); have n5_ := Aside0.mk ((by rw [hg]; exact (below_size HB.out) : w.heap.size ≤ gb767)); clear HO0_4; clear HO1_4; clear HB; have HO0_4 := n0_; have HO1_4 := n1_; have HB := n2_; have BK767 := n3_; have GW767 := n4_; have GE767 := n5_; clear n0_ n1_ n2_ n3_ n4_ n5_; clear hb hbox hg) | ((with_reducible refine gate_dst (N := 5) rfl ?_); refine box_event ?hg (N := 5) ?hd (cs := #[.int .i64 a1_0, .slice A1_1 l1_1.length c1_1, .int .i64 a1_2, .int .i64 a1_3, .slice A1_4 l1_4.length c1_4]) (t := 53) ?hr ?_; (case hd => rfl); (case hg => rfl); (case hr => first | (go_simp; done) | (go_simp; rfl)); intro gb768 hg w5 hbox hb; have n0_ := Aside0.mk (Kd.V_below (Kd.V_elderB HO0_4.out gb768 (Nat.le_of_eq hg.symm)) hb); have n1_ := Aside0.mk (Kd.V_below (Kd.V_elderB HO1_4.out gb768 (Nat.le_of_eq hg.symm)) hb); have n2_ := Aside0.mk (blk_below BK767.out hb); have n3_ := Aside0.mk (below_step HB.out hb); have n4_ := Aside0.mk (hbox); have n5_ := Aside0.mk ((by rw [hg]; exact (below_size HB.out) : w.heap.size ≤ gb768)); have n6_ := Aside0.mk ((by rw [hg]; exact (below_size HB.out) : w.heap.size ≤ gb768)); have n7_ := Aside0.mk ((by rw [hg]; exact Nat.ne_of_lt (blk_lt (g := gb767) (o := .cells #[.int .i64 a0_0, .slice A0_1 l0_1.length c0_1, .int .i64 a0_2, .int .i64 a0_3, .slice A0_4 l0_4.length c0_4] 53 (0, 0)) BK767.out) : gb767 ≠ gb768)); have n8_ := Aside0.mk ((by rw [hg]; exact Nat.ne_of_gt (blk_lt (g := gb767) (o := .cells #[.int .i64 a0_0, .slice A0_1 l0_1.length c0_1, .int .i64 a0_2, .int .i64 a0_3, .slice A0_4 l0_4.length c0_4] 53 (0, 0)) BK767.out) : gb768 ≠ gb767)); clear HO0_4; clear HO1_4; clear BK767; clear HB; have HO0_4 := n0_; have HO1_4 := n1_; have BK767 := n2_; have HB := n3_; have BK768 := n4_; have GW768 := n5_; have GE768 := n6_; have NB767_768 := n7_; have NB768_767 := n8_; clear n0_ n1_ n2_ n3_ n4_ n5_ n6_ n7_ n8_; clear hb hbox hg) | ((with_reducible refine gate_dst (N := 8) rfl ?_); refine box_event ?hg (N := 8) ?hd (cs := #[.int .i64 0, .slice none 0 0, .int .i64 0, .int .i64 0, .slice none 0 0]) (t := 53) ?hr ?_; (case hd => rfl); (case hg => rfl); (case hr => first | (go_simp; done) | (go_simp; rfl)); intro gb769 hg w6 hbox hb; have n0_ := Aside0.mk (Kd.V_below (Kd.V_elderB HO0_4.out gb769 (Nat.le_of_eq hg.symm)) hb); have n1_ := Aside0.mk (Kd.V_below (Kd.V_elderB HO1_4.out gb769 (Nat.le_of_eq hg.symm)) hb); have n2_ := Aside0.mk (blk_below BK767.out hb); have n3_ := Aside0.mk (blk_below BK768.out hb); have n4_ := Aside0.mk (below_step HB.out hb); have n5_ := Aside0.mk (hbox); have n6_ := Aside0.mk ((by rw [hg]; exact (below_size HB.out) : w.heap.size ≤ gb769)); have n7_ := Aside0.mk ((by rw [hg]; exact (below_size HB.out) : w.heap.size ≤ gb769)); have n8_ := Aside0.mk ((by rw [hg]; exact Nat.ne_of_lt (blk_lt (g := gb767) (o := .cells #[.int .i64 a0_0, .slice A0_1 l0_1.length c0_1, .int .i64 a0_2, .int .i64 a0_3, .slice A0_4 l0_4.length c0_4] 53 (0, 0)) BK767.out) : gb767 ≠ gb769)); have n9_ := Aside0.mk ((by rw [hg]; exact Nat.ne_of_gt (blk_lt (g := gb767) (o := .cells #[.int .i64 a0_0, .slice A0_1 l0_1.length c0_1, .int .i64 a0_2, .int .i64 a0_3, .slice A0_4 l0_4.length c0_4] 53 (0, 0)) BK767.out) : gb769 ≠ gb767)); have n10_ := Aside0.mk ((by rw [hg]; exact Nat.ne_of_lt (blk_lt (g := gb768) (o := .cells #[.int .i64 a1_0, .slice A1_1 l1_1.length c1_1, .int .i64 a1_2, .int .i64 a1_3, .slice A1_4 l1_4.length c1_4] 53 (0, 0)) BK768.out) : gb768 ≠ gb769)); have n11_ := Aside0.mk ((by rw [hg]; exact Nat.ne_of_gt (blk_lt (g := gb768) (o := .cells #[.int .i64 a1_0, .slice A1_1 l1_1.length c1_1, .int .i64 a1_2, .int .i64 a1_3, .slice A1_4 l1_4.length c1_4] 53 (0, 0)) BK768.out) : gb769 ≠ gb768)); clear HO0_4; clear HO1_4; clear BK767; clear BK768; clear HB; have HO0_4 := n0_; have HO1_4 := n1_; have BK767 := n2_; have BK768 := n3_; have HB := n4_; have BK769 := n5_; have GW769 := n6_; have GE769 := n7_; have NB767_769 := n8_; have NB769_767 := n9_; have NB768_769 := n10_; have NB769_768 := n11_; clear n0_ n1_ n2_ n3_ n4_ n5_ n6_ n7_ n8_ n9_ n10_ n11_; clear hb hbox hg))
 (try simp only [Act.put, List.setIfInBounds_toArray, List.set_cons_zero, List.set_cons_succ])
 go_cut [16] (fun v16 wc => ∃ (kq : Nat) (x16_2 : Bool), v16 = .bool x16_2 ∧ Aside0 (impl_joined.j0 kq x16_2 a0_0 l0_1 a0_2 a0_3 l0_4 a1_0 l1_1 a1_2 a1_3 l1_4 = some (r1, r2, r3, r4, r5, r6)) ∧ Aside0 (kq ≤ k) ∧ Aside0 (Kd.V (Kd.slice 2 (Kd.int .i64)) 35 wc w.heap.size (fun k_ => ((P0_4_ k_ ∨ P1_4_ k_) ∨ w.heap.size ≤ k_) ∧ k_ ≠ gb767 ∧ k_ ≠ gb768 ∧ k_ ≠ gb769) (.slice A0_4 l0_4.length c0_4) l0_4) ∧ Aside0 (Kd.V (Kd.slice 2 (Kd.int .i64)) 35 wc w.heap.size (fun k_ => ((P0_4_ k_ ∨ P1_4_ k_) ∨ w.heap.size ≤ k_) ∧ k_ ≠ gb767 ∧ k_ ≠ gb768 ∧ k_ ≠ gb769) (.slice A1_4 l1_4.length c1_4) l1_4) ∧ Aside0 (wc.heap[gb767]? = some (.cells #[.int .i64 a0_0, (.slice A0_1 l0_1.length c0_1), .int .i64 a0_2, .int .i64 a0_3, (.slice A0_4 l0_4.length c0_4)] 53 (0, 0))) ∧ Aside0 (wc.heap[gb768]? = some (.cells #[.int .i64 a1_0, (.slice A1_1 l1_1.length c1_1), .int .i64 a1_2, .int .i64 a1_3, (.slice A1_4 l1_4.length c1_4)] 53 (0, 0))) ∧ Aside0 (wc.heap[gb769]? = some (.cells #[.int .i64 0, (.slice none 0 0), .int .i64 0, .int .i64 0, (.slice none 0 0)] 53 (0, 0))) ∧ Aside0 (Below w.heap.size w wc))
 case first =>
  have H := HC3.out
  clear HC3
  replace H := Option.bind_eq_some_iff.mp H
  obtain ⟨t770, A70, H⟩ := H
  replace H : (if t770 = true then ((impl_ValidScheme.f k a1_0 l1_1 a1_2 a1_3 l1_4).bind fun t771 => (impl_joined.j0 k (!t771) a0_0 l0_1 a0_2 a0_3 l0_4 a1_0 l1_1 a1_2 a1_3 l1_4)) else (impl_joined.j0 k true a0_0 l0_1 a0_2 a0_3 l0_4 a1_0 l1_1 a1_2 a1_3 l1_4)) = some (r1, r2, r3, r4, r5, r6) := H
  have A7 := Aside0.mk A70
  clear A70
  by_cases c8 : t770 = true
  ·subst c8
   have H1 : ((impl_ValidScheme.f k a1_0 l1_1 a1_2 a1_3 l1_4).bind fun t771 => (impl_joined.j0 k (!t771) a0_0 l0_1 a0_2 a0_3 l0_4 a1_0 l1_1 a1_2 a1_3 l1_4)) = some (r1, r2, r3, r4, r5, r6) := by rw [if_pos rfl] at H; exact H
   clear H
   have H := H1
   clear H1
   replace H := Option.bind_eq_some_iff.mp H
   obtain ⟨t771, A90, H⟩ := H
   replace H : (impl_joined.j0 k (!t771) a0_0 l0_1 a0_2 a0_3 l0_4 a1_0 l1_1 a1_2 a1_3 l1_4) = some (r1, r2, r3, r4, r5, r6) := H
   have A9 := Aside0.mk A90
   clear A90
   have H' := Aside0.mk H
   clear H
   have hnb10 := NB767_768.out
   have hnc10 := NB768_767.out
   have hnb11 := NB767_769.out
   have hnc11 := NB769_767.out
   obtain ⟨hcz12_0, hcz12_1, hcz12_2, hcz12_3, hcz12_4, hfz12_0, hfz12_1, hfz12_2, hfz12_3, hfz12_4⟩ := box5 BK767.out
   go_wp2_with (first | ((with_reducible refine gate_callee (f := 107) rfl ?_); refine goesL_ (some 18) rfl rfl Try.func107 (by kernel_rfl) rfl #[.agg #[.int .i64 a0_0, .slice A0_1 l0_1.length c0_1, .int .i64 a0_2, .int .i64 a0_3, .slice A0_4 l0_4.length c0_4]] rfl (by (try simp only [List.map_toArray, List.map_cons, List.map_nil]); first | done | rfl | (simp only [List.length_drop, List.length_take]; rfl)) ?_; (with_reducible refine (impl_ValidScheme.calls k a0_0 _ _ l0_1 a0_2 a0_3 _ _ l0_4 true _ ?side1 ?side2 ?side3 ?side4 A7.out).mono ?_); (case side1 => repeat (first | exact (Kd.C_below HR0_1.out HB.out) | (with_reducible refine Kd.C_alloc ?_ _) | (with_reducible refine Kd.C_drewN ?_ _) | (with_reducible refine Kd.C_drew ?_))); (case side2 => exact HC0_1.out); (case side3 => repeat (first | exact (Kd.V_reads' HO0_4.out).2.2 | (with_reducible refine Kd.C_alloc ?_ _) | (with_reducible refine Kd.C_drewN ?_ _) | (with_reducible refine Kd.C_drew ?_))); (case side4 => exact (Kd.V_reads' HO0_4.out).2.1); rintro e w13 ⟨rfl, hb⟩; refine ⟨_, rfl, ?_⟩; have n0_ := Aside0.mk (Kd.V_below HO0_4.out hb); have n1_ := Aside0.mk (Kd.V_below HO1_4.out hb); have n2_ := Aside0.mk (blk_below BK767.out hb); have n3_ := Aside0.mk (blk_below BK768.out hb); have n4_ := Aside0.mk (blk_below BK769.out hb); have n5_ := Aside0.mk (below_step HB.out hb); clear HO0_4; clear HO1_4; clear BK767; clear BK768; clear BK769; clear HB; have HO0_4 := n0_; have HO1_4 := n1_; have BK767 := n2_; have BK768 := n3_; have BK769 := n4_; have HB := n5_; clear n0_ n1_ n2_ n3_ n4_ n5_; (try clear hb); (try clear hb2); (try clear hk); (try clear hi); have hnb14 := NB768_769.out; have hnc14 := NB769_768.out; obtain ⟨hcz15_0, hcz15_1, hcz15_2, hcz15_3, hcz15_4, hfz15_0, hfz15_1, hfz15_2, hfz15_3, hfz15_4⟩ := box5 BK768.out) | (go_at_call 107; (with_reducible refine (impl_ValidScheme.calls k a1_0 _ _ l1_1 a1_2 a1_3 _ _ l1_4 t771 _ ?side1 ?side2 ?side3 ?side4 A9.out).mono ?_); (case side1 => repeat (first | exact (Kd.C_below HR1_1.out HB.out) | (with_reducible refine Kd.C_alloc ?_ _) | (with_reducible refine Kd.C_drewN ?_ _) | (with_reducible refine Kd.C_drew ?_))); (case side2 => exact HC1_1.out); (case side3 => repeat (first | exact (Kd.V_reads' HO1_4.out).2.2 | (with_reducible refine Kd.C_alloc ?_ _) | (with_reducible refine Kd.C_drewN ?_ _) | (with_reducible refine Kd.C_drew ?_))); (case side4 => exact (Kd.V_reads' HO1_4.out).2.1); rintro e w16 ⟨rfl, hb⟩; have n0_ := Aside0.mk (Kd.V_below HO0_4.out hb); have n1_ := Aside0.mk (Kd.V_below HO1_4.out hb); have n2_ := Aside0.mk (blk_below BK767.out hb); have n3_ := Aside0.mk (blk_below BK768.out hb); have n4_ := Aside0.mk (blk_below BK769.out hb); have n5_ := Aside0.mk (below_step HB.out hb); clear HO0_4; clear HO1_4; clear BK767; clear BK768; clear BK769; clear HB; have HO0_4 := n0_; have HO1_4 := n1_; have BK767 := n2_; have BK768 := n3_; have BK769 := n4_; have HB := n5_; clear n0_ n1_ n2_ n3_ n4_ n5_; (try clear hb); (try clear hb2); (try clear hk); (try clear hi)))
   go_meet
   case rel => exact ⟨_, (!t771), rfl, H', ⟨by first | omega | exact Nat.le_refl _⟩, ⟨by exact Kd.V_mono HO0_4.out (fun _ hk => ⟨hk.1.1.1, ⟨hk.1.1.2, ⟨hk.1.2, hk.2⟩⟩⟩)⟩, ⟨by exact Kd.V_mono HO1_4.out (fun _ hk => ⟨hk.1.1.1, ⟨hk.1.1.2, ⟨hk.1.2, hk.2⟩⟩⟩)⟩, ⟨by (with_reducible repeat (first | refine blk_drewN ?_ _ | refine blk_drew ?_ | refine blk_alloc ?_ _)); exact BK767.out⟩, ⟨by (with_reducible repeat (first | refine blk_drewN ?_ _ | refine blk_drew ?_ | refine blk_alloc ?_ _)); exact BK768.out⟩, ⟨by (with_reducible repeat (first | refine blk_drewN ?_ _ | refine blk_drew ?_ | refine blk_alloc ?_ _)); exact BK769.out⟩, ⟨by repeat (first | exact HB.out | refine below_set ?_ GE769.out)⟩⟩
  ·replace c8 := Bool.eq_false_iff.mpr c8
   subst c8
   have H1 : (impl_joined.j0 k true a0_0 l0_1 a0_2 a0_3 l0_4 a1_0 l1_1 a1_2 a1_3 l1_4) = some (r1, r2, r3, r4, r5, r6) := by rw [if_neg (show ¬ (false = true) by decide)] at H; exact H
   clear H
   have H := H1
   clear H1
   have H' := Aside0.mk H
   clear H
   have hnb17 := NB767_768.out
   have hnc17 := NB768_767.out
   have hnb18 := NB767_769.out
   have hnc18 := NB769_767.out
   obtain ⟨hcz19_0, hcz19_1, hcz19_2, hcz19_3, hcz19_4, hfz19_0, hfz19_1, hfz19_2, hfz19_3, hfz19_4⟩ := box5 BK767.out
   go_wp2_with (first | ((with_reducible refine gate_callee (f := 107) rfl ?_); refine goesL_ (some 18) rfl rfl Try.func107 (by kernel_rfl) rfl #[.agg #[.int .i64 a0_0, .slice A0_1 l0_1.length c0_1, .int .i64 a0_2, .int .i64 a0_3, .slice A0_4 l0_4.length c0_4]] rfl (by (try simp only [List.map_toArray, List.map_cons, List.map_nil]); first | done | rfl | (simp only [List.length_drop, List.length_take]; rfl)) ?_; (with_reducible refine (impl_ValidScheme.calls k a0_0 _ _ l0_1 a0_2 a0_3 _ _ l0_4 false _ ?side1 ?side2 ?side3 ?side4 A7.out).mono ?_); (case side1 => repeat (first | exact (Kd.C_below HR0_1.out HB.out) | (with_reducible refine Kd.C_alloc ?_ _) | (with_reducible refine Kd.C_drewN ?_ _) | (with_reducible refine Kd.C_drew ?_))); (case side2 => exact HC0_1.out); (case side3 => repeat (first | exact (Kd.V_reads' HO0_4.out).2.2 | (with_reducible refine Kd.C_alloc ?_ _) | (with_reducible refine Kd.C_drewN ?_ _) | (with_reducible refine Kd.C_drew ?_))); (case side4 => exact (Kd.V_reads' HO0_4.out).2.1); rintro e w20 ⟨rfl, hb⟩; refine ⟨_, rfl, ?_⟩; have n0_ := Aside0.mk (Kd.V_below HO0_4.out hb); have n1_ := Aside0.mk (Kd.V_below HO1_4.out hb); have n2_ := Aside0.mk (blk_below BK767.out hb); have n3_ := Aside0.mk (blk_below BK768.out hb); have n4_ := Aside0.mk (blk_below BK769.out hb); have n5_ := Aside0.mk (below_step HB.out hb); clear HO0_4; clear HO1_4; clear BK767; clear BK768; clear BK769; clear HB; have HO0_4 := n0_; have HO1_4 := n1_; have BK767 := n2_; have BK768 := n3_; have BK769 := n4_; have HB := n5_; clear n0_ n1_ n2_ n3_ n4_ n5_; (try clear hb); (try clear hb2); (try clear hk); (try clear hi)))
   go_meet
   case rel => exact ⟨_, (true), rfl, H', ⟨by first | omega | exact Nat.le_refl _⟩, ⟨by exact Kd.V_mono HO0_4.out (fun _ hk => ⟨hk.1.1.1, ⟨hk.1.1.2, ⟨hk.1.2, hk.2⟩⟩⟩)⟩, ⟨by exact Kd.V_mono HO1_4.out (fun _ hk => ⟨hk.1.1.1, ⟨hk.1.1.2, ⟨hk.1.2, hk.2⟩⟩⟩)⟩, ⟨by (with_reducible repeat (first | refine blk_drewN ?_ _ | refine blk_drew ?_ | refine blk_alloc ?_ _)); exact BK767.out⟩, ⟨by (with_reducible repeat (first | refine blk_drewN ?_ _ | refine blk_drew ?_ | refine blk_alloc ?_ _)); exact BK768.out⟩, ⟨by (with_reducible repeat (first | refine blk_drewN ?_ _ | refine blk_drew ?_ | refine blk_alloc ?_ _)); exact BK769.out⟩, ⟨by repeat (first | exact HB.out | refine below_set ?_ GE769.out)⟩⟩
 case rest =>
  clear HC3
  try clear c1
  try clear p2
  try clear c8
  try clear c10
  try clear c11
  try clear c14
  try clear c17
  try clear c18
  try clear hcz12_0
  try clear hcz12_1
  try clear hcz12_2
  try clear hcz12_3
  try clear hcz12_4
  try clear hcz15_0
  try clear hcz15_1
  try clear hcz15_2
  try clear hcz15_3
  try clear hcz15_4
  try clear hcz19_0
  try clear hcz19_1
  try clear hcz19_2
  try clear hcz19_3
  try clear hcz19_4
  try clear hfz12_0
  try clear hfz12_1
  try clear hfz12_2
  try clear hfz12_3
  try clear hfz12_4
  try clear hfz15_0
  try clear hfz15_1
  try clear hfz15_2
  try clear hfz15_3
  try clear hfz15_4
  try clear hfz19_0
  try clear hfz19_1
  try clear hfz19_2
  try clear hfz19_3
  try clear hfz19_4
  obtain ⟨kq, x16_2, rfl, HA, HJ2, O8, O9, BK767, BK768, BK769, HB⟩ := hcut
  cases kq with
  | zero => exact absurd HA.out (by simp [impl_joined.j0])
  | succ kj2 =>
   have H := HA.out
   clear HA
   simp only [impl_joined.j0] at H
   by_cases c21 : x16_2 = true
   ·subst c21
    have H1 : (some (0, ([] : List Int), 0, 0, ([] : List (List Int)), 1)) = some (r1, r2, r3, r4, r5, r6) := by rw [if_pos rfl] at H; exact H
    clear H
    have H := H1
    clear H1
    simp only [Option.some.injEq, Prod.mk.injEq] at H
    obtain ⟨rfl, rfl, rfl, rfl, rfl, rfl⟩ := H
    have hnb22 := NB769_767.out
    have hnc22 := NB767_769.out
    have hnb23 := NB769_768.out
    have hnc23 := NB768_769.out
    obtain ⟨hcz24_0, hcz24_1, hcz24_2, hcz24_3, hcz24_4, hfz24_0, hfz24_1, hfz24_2, hfz24_3, hfz24_4⟩ := box5 BK769.out
    go_wp2
    refine bodyPost_ret (results_ct rfl _ _ gb769 53 #[.int .i64 0, .slice none 0 0, .int .i64 0, .int .i64 0, .slice none 0 0] (0, 0) _ rfl (by refine blk_put (cs := #[.int .i64 0, .slice none 0 0, .int .i64 0, .int .i64 0, .slice none 0 0]) ?_ 4 _ rfl; refine blk_put (cs := #[.int .i64 0, .slice none 0 0, .int .i64 0, .int .i64 0, .slice none 0 0]) ?_ 3 _ rfl; refine blk_put (cs := #[.int .i64 0, .slice none 0 0, .int .i64 0, .int .i64 0, .slice none 0 0]) ?_ 2 _ rfl; refine blk_put (cs := #[.int .i64 0, .slice none 0 0, .int .i64 0, .int .i64 0, .slice none 0 0]) ?_ 1 _ rfl; refine blk_put (cs := #[.int .i64 0, .slice none 0 0, .int .i64 0, .int .i64 0, .slice none 0 0]) ?_ 0 _ rfl; exact BK769.out) Try.underlying53 rfl (by kernel_rfl)) rfl ?_
    exact ⟨_, _, rfl, Kd.R_nil _ _ _ _ _, Kd.S_nil _ _ _ _ _, by repeat (first | exact HB.out | refine below_set ?_ GE769.out)⟩
   ·replace c21 := Bool.eq_false_iff.mpr c21
    subst c21
    have H1 : (if a0_0 = a1_0 then (if a0_2 = a1_2 then ((slices_Clone_int64_int64.f l0_1).bind fun t775 => (if t775.length + l1_1.length < 17592186044416 then (impl_joined.l0 kj2 l0_4 (l0_4.length : Int) 0 a0_0 l0_1 a0_2 a0_3 l0_4 a1_0 l1_1 a1_2 a1_3 l1_4 a0_0 (t775 ++ l1_1) a0_2 (wrap64 ((wrap64 ((wrap64 ((wrap64 (((([0] : List Int)).length : Int) + a0_3)) - 1)) + a1_3)) - 1)) ([] : List (List Int))) else (none))) else (some (0, ([] : List Int), 0, 0, ([] : List (List Int)), 2))) else (some (0, ([] : List Int), 0, 0, ([] : List (List Int)), 2))) = some (r1, r2, r3, r4, r5, r6) := by rw [if_neg (show ¬ (false = true) by decide)] at H; exact H
    clear H
    have H := H1
    clear H1
    by_cases c25 : a0_0 = a1_0
    ·rw [if_pos c25] at H
     have c25b0 : (a0_0 == a1_0) = true := beq_iff_eq.mpr c25
     have c25b1 : (a0_0 != a1_0) = false := bne_eq_false_iff_eq.mpr c25
     clear c25
     by_cases c26 : a0_2 = a1_2
     ·rw [if_pos c26] at H
      have c26b0 : (a0_2 == a1_2) = true := beq_iff_eq.mpr c26
      have c26b1 : (a0_2 != a1_2) = false := bne_eq_false_iff_eq.mpr c26
      clear c26
      obtain ⟨y772, hy772⟩ : ∃ y_ : List Int, y_ = (([0] : List Int)) := ⟨_, rfl⟩
      replace H : ((slices_Clone_int64_int64.f l0_1).bind fun t775 => (if t775.length + l1_1.length < 17592186044416 then (impl_joined.l0 kj2 l0_4 (l0_4.length : Int) 0 a0_0 l0_1 a0_2 a0_3 l0_4 a1_0 l1_1 a1_2 a1_3 l1_4 a0_0 (t775 ++ l1_1) a0_2 (wrap64 ((wrap64 ((wrap64 ((wrap64 ((y772.length : Int) + a0_3)) - 1)) + a1_3)) - 1)) ([] : List (List Int))) else (none))) = some (r1, r2, r3, r4, r5, r6) := by first | (rw [hy772]; with_reducible exact H) | (have H2_ := (Option.bind_some _ _).symm.trans H; rw [hy772]; with_reducible exact H2_) | (have H2_ := (Option.bind_some _ _).symm.trans H; with_reducible exact H2_) | with_reducible exact H | (rw [hy772]; exact H) | exact H
      have Ny772 := Aside0.mk hy772
      clear hy772
      replace H := Option.bind_eq_some_iff.mp H
      obtain ⟨t775, A270, H⟩ := H
      replace H : (if t775.length + l1_1.length < 17592186044416 then (impl_joined.l0 kj2 l0_4 (l0_4.length : Int) 0 a0_0 l0_1 a0_2 a0_3 l0_4 a1_0 l1_1 a1_2 a1_3 l1_4 a0_0 (t775 ++ l1_1) a0_2 (wrap64 ((wrap64 ((wrap64 ((wrap64 ((y772.length : Int) + a0_3)) - 1)) + a1_3)) - 1)) ([] : List (List Int))) else (none)) = some (r1, r2, r3, r4, r5, r6) := H
      have A27 := Aside0.mk A270
      clear A270
      by_cases c28 : t775.length + l1_1.length < 17592186044416
      case neg => rw [if_neg c28] at H; exact absurd H (by simp)
      rw [if_pos c28] at H
      have LMc28 := Aside0.mk c28
      clear c28
      obtain ⟨y778, hy778⟩ : ∃ y_ : List Int, y_ = (t775 ++ l1_1) := ⟨_, rfl⟩
      replace H : (impl_joined.l0 kj2 l0_4 (l0_4.length : Int) 0 a0_0 l0_1 a0_2 a0_3 l0_4 a1_0 l1_1 a1_2 a1_3 l1_4 a0_0 y778 a0_2 (wrap64 ((wrap64 ((wrap64 ((wrap64 ((y772.length : Int) + a0_3)) - 1)) + a1_3)) - 1)) ([] : List (List Int))) = some (r1, r2, r3, r4, r5, r6) := by first | (rw [hy778]; with_reducible exact H) | (have H2_ := (Option.bind_some _ _).symm.trans H; rw [hy778]; with_reducible exact H2_) | (have H2_ := (Option.bind_some _ _).symm.trans H; with_reducible exact H2_) | with_reducible exact H | (rw [hy778]; exact H) | exact H
      have Ny778 := Aside0.mk hy778
      clear hy778
      have H' := Aside0.mk H
      clear H
      have hnb29 := NB767_768.out
      have hnc29 := NB768_767.out
      have hnb30 := NB767_769.out
      have hnc30 := NB769_767.out
      obtain ⟨hcz31_0, hcz31_1, hcz31_2, hcz31_3, hcz31_4, hfz31_0, hfz31_1, hfz31_2, hfz31_3, hfz31_4⟩ := box5 BK767.out
      have hnb32 := NB768_769.out
      have hnc32 := NB769_768.out
      obtain ⟨hcz33_0, hcz33_1, hcz33_2, hcz33_3, hcz33_4, hfz33_0, hfz33_1, hfz33_2, hfz33_3, hfz33_4⟩ := box5 BK768.out
      try go_wp2_with (first | (go_at_fn 85; (with_reducible refine (own1.calls 0 _).mono ?_); rintro e_ w34 ⟨v773, rfl, ho35, hb⟩; rw [← Ny772.out] at ho35; have n0_ := Aside0.mk (Kd.V_elder' O8.out (Kd.R_base ho35) hb); have n1_ := Aside0.mk (Kd.V_elder' O9.out (Kd.R_base ho35) hb); have n2_ := Aside0.mk (Kd.R_lower (Kd.R_newM (M := fun k_ => (w.heap.size ≤ k_)) ho35 (below_size HB.out) (fun k_ h_ => h_)) (below_size HB.out)); have n3_ := Aside0.mk (blk_below BK767.out hb); have n4_ := Aside0.mk (blk_below BK768.out hb); have n5_ := Aside0.mk (blk_below BK769.out hb); have n6_ := Aside0.mk (below_step HB.out hb); clear O8; clear O9; clear BK767; clear BK768; clear BK769; clear HB; have O8 := n0_; have O9 := n1_; have HO774 := n2_; have BK767 := n3_; have BK768 := n4_; have BK769 := n5_; have HB := n6_; clear n0_ n1_ n2_ n3_ n4_ n5_ n6_; clear hb ho35; obtain ⟨Ao36, co36, eo36⟩ := Kd.R_slice HO774.out; subst eo36))
      have n0_ := Aside0.mk (Kd.V_drew O8.out)
      have n1_ := Aside0.mk (Kd.V_drew O9.out)
      have n2_ := Aside0.mk (Kd.R_drew HO774.out)
      have n3_ := Aside0.mk (blk_drew BK767.out)
      have n4_ := Aside0.mk (blk_drew BK768.out)
      have n5_ := Aside0.mk (blk_drew BK769.out)
      have n6_ := Aside0.mk (below_drew1 HB.out)
      clear O8 O9 HO774 BK767 BK768 BK769 HB
      have O8 := n0_
      have O9 := n1_
      have HO774 := n2_
      have BK767 := n3_
      have BK768 := n4_
      have BK769 := n5_
      have HB := n6_
      clear n0_ n1_ n2_ n3_ n4_ n5_ n6_
      refine start_ (n := 11) (S := fun w' => w'.cell? ⟨gb767, 0, none⟩ = some (.int .i64 a0_0) ∧ w'.cell? ⟨gb767, 1, none⟩ = some (.slice A0_1 l0_1.length c0_1) ∧ w'.cell? ⟨gb767, 2, none⟩ = some (.int .i64 a0_2) ∧ w'.cell? ⟨gb767, 3, none⟩ = some (.int .i64 a0_3) ∧ w'.cell? ⟨gb767, 4, none⟩ = some (.slice A0_4 l0_4.length c0_4) ∧ w'.cell? ⟨gb768, 0, none⟩ = some (.int .i64 a1_0) ∧ w'.cell? ⟨gb768, 1, none⟩ = some (.slice A1_1 l1_1.length c1_1) ∧ w'.cell? ⟨gb768, 2, none⟩ = some (.int .i64 a1_2) ∧ w'.cell? ⟨gb768, 3, none⟩ = some (.int .i64 a1_3) ∧ w'.cell? ⟨gb768, 4, none⟩ = some (.slice A1_4 l1_4.length c1_4)) (ds := []) #[Z,Z,Z,Z,Z,Z,Z,Z,Z,Z,Z] (by kernel_rfl) rfl rfl ⟨(blk_cell BK767.out 0).trans rfl, (blk_cell BK767.out 1).trans rfl, (blk_cell BK767.out 2).trans rfl, (blk_cell BK767.out 3).trans rfl, (blk_cell BK767.out 4).trans rfl, (blk_cell BK768.out 0).trans rfl, (blk_cell BK768.out 1).trans rfl, (blk_cell BK768.out 2).trans rfl, (blk_cell BK768.out 3).trans rfl, (blk_cell BK768.out 4).trans rfl⟩ (fun hHeld => ?_); refine with_tabW impl_joined.tab6 impl_joined.bits6 (fun HT_ HW_ => ?_)
      generalize w34.drew = w37 at O8 O9 HO774 BK767 BK768 BK769 HB hHeld ⊢
      refine pure_ (i := 0) (N := some 45) (v := ?_) (a' := ?_) #[Y,Z,Z,Z,Z,Z,Z,Z,Z,Z,Z] rfl rfl (any_of HT_.out (by kernel_rfl)) (fun _ _ _ h => h) (Or.inl ⟨by rfl, ?_⟩) ?_ ?_
      rotate_left
      ·intro w'
       go_simp; with_reducible rfl
      rotate_left
      ·simp only [Act.put, List.setIfInBounds_toArray, List.set_cons_zero, List.set_cons_succ, i64_w]
       rfl
      refine pure_ (i := 2) (N := some 47) (v := ?_) (a' := ?_) #[Y,Z,Y,Z,Z,Z,Z,Z,Z,Z,Z] rfl rfl (any_of HT_.out (by kernel_rfl)) (fun _ _ _ h => h) (Or.inl ⟨by rfl, ?_⟩) ?_ ?_
      rotate_left
      ·intro w'
       go_simp; with_reducible rfl
      rotate_left
      ·simp only [Act.put, List.setIfInBounds_toArray, List.set_cons_zero, List.set_cons_succ, i64_w]
       rfl
      refine pure_ (i := 5) (N := some 50) (v := ?_) (a' := ?_) #[Y,Z,Y,Z,Z,Y,Z,Z,Z,Z,Z] rfl rfl (any_of HT_.out (by kernel_rfl)) (fun _ _ _ h => h) (Or.inl ⟨by rfl, ?_⟩) ?_ ?_
      rotate_left
      ·intro w'
       go_simp; with_reducible rfl
      rotate_left
      ·simp only [Act.put, List.setIfInBounds_toArray, List.set_cons_zero, List.set_cons_succ, i64_w]
       rfl
      refine take_ (i := 1) (N := some 46) (v := ?_) (a' := ?_) #[Y,Y,Y,Z,Z,Y,Z,Z,Z,Z,Z] rfl rfl (take_ofW HT_.out HW_.out (by kernel_rfl)) (fun _ _ _ h => h) (Or.inl ⟨by rfl, ?_⟩) hHeld ?_ ?_
      rotate_left
      ·rintro w' ⟨s0, s1, s2, s3, s4, s5, s6, s7, s8, s9⟩
       go_simp
       with_reducible rfl
      rotate_left
      ·simp only [Act.put, List.setIfInBounds_toArray, List.set_cons_zero, List.set_cons_succ, i64_w]
       rfl
      refine take_ (i := 3) (N := some 48) (v := ?_) (a' := ?_) #[Y,Y,Y,Y,Z,Y,Z,Z,Z,Z,Z] rfl rfl (take_ofW HT_.out HW_.out (by kernel_rfl)) (fun _ _ _ h => h) (Or.inl ⟨by rfl, ?_⟩) hHeld ?_ ?_
      rotate_left
      ·rintro w' ⟨s0, s1, s2, s3, s4, s5, s6, s7, s8, s9⟩
       go_simp
       with_reducible rfl
      rotate_left
      ·simp only [Act.put, List.setIfInBounds_toArray, List.set_cons_zero, List.set_cons_succ, i64_w]
       rfl
      refine take_ (i := 6) (N := some 51) (v := ?_) (a' := ?_) #[Y,Y,Y,Y,Z,Y,Y,Z,Z,Z,Z] rfl rfl (take_ofW HT_.out HW_.out (by kernel_rfl)) (fun _ _ _ h => h) (Or.inl ⟨by rfl, ?_⟩) hHeld ?_ ?_
      rotate_left
      ·rintro w' ⟨s0, s1, s2, s3, s4, s5, s6, s7, s8, s9⟩
       go_simp
       with_reducible rfl
      rotate_left
      ·simp only [Act.put, List.setIfInBounds_toArray, List.set_cons_zero, List.set_cons_succ, i64_w]
       rfl
      refine join_ (σ := Value × Value × Nat) 1 #[Y,Y,Y,Y,Y,Y,Y,Y,Y,Y,Z] (fun s_ => [(49, s_.1), (52, s_.2.1), (11, .pointer (some ⟨s_.2.2, 0, none⟩)), (53, .agg #[.int .i64 a0_0, s_.2.1, .int .i64 0, .int .i64 0, .slice none 0 0])]) (fun s_ w' => (w'.cell? ⟨gb767, 0, none⟩ = some (.int .i64 a0_0) ∧ w'.cell? ⟨gb767, 1, none⟩ = some (.slice A0_1 l0_1.length c0_1) ∧ w'.cell? ⟨gb767, 2, none⟩ = some (.int .i64 a0_2) ∧ w'.cell? ⟨gb767, 3, none⟩ = some (.int .i64 a0_3) ∧ w'.cell? ⟨gb767, 4, none⟩ = some (.slice A0_4 l0_4.length c0_4) ∧ w'.cell? ⟨gb768, 0, none⟩ = some (.int .i64 a1_0) ∧ w'.cell? ⟨gb768, 1, none⟩ = some (.slice A1_1 l1_1.length c1_1) ∧ w'.cell? ⟨gb768, 2, none⟩ = some (.int .i64 a1_2) ∧ w'.cell? ⟨gb768, 3, none⟩ = some (.int .i64 a1_3) ∧ w'.cell? ⟨gb768, 4, none⟩ = some (.slice A1_4 l1_4.length c1_4)) ∧ (Kd.R (Kd.int .i64) 2 w' w.heap.size (fun k_ => (w.heap.size ≤ k_) ∧ some k_ ≠ (s_.2.1 : Value).ownBlock) (.slice Ao36 y772.length co36) y772) ∧ (Kd.R (Kd.int .i64) 2 w' w.heap.size (fun k_ => (w.heap.size ≤ k_) ∧ some k_ ≠ (.slice Ao36 y772.length co36 : Value).ownBlock) s_.2.1 y778) ∧ (Kd.V (Kd.slice 2 (Kd.int .i64)) 35 w' w.heap.size (fun k_ => ((P0_4_ k_ ∨ P1_4_ k_) ∨ w.heap.size ≤ k_) ∧ some k_ ≠ (.slice Ao36 y772.length co36 : Value).ownBlock ∧ some k_ ≠ (s_.2.1 : Value).ownBlock ∧ k_ ≠ gb767 ∧ k_ ≠ gb768 ∧ k_ ≠ gb769 ∧ k_ ≠ s_.2.2) (.slice A0_4 l0_4.length c0_4) l0_4) ∧ (Kd.V (Kd.slice 2 (Kd.int .i64)) 35 w' w.heap.size (fun k_ => ((P0_4_ k_ ∨ P1_4_ k_) ∨ w.heap.size ≤ k_) ∧ some k_ ≠ (.slice Ao36 y772.length co36 : Value).ownBlock ∧ some k_ ≠ (s_.2.1 : Value).ownBlock ∧ k_ ≠ gb767 ∧ k_ ≠ gb768 ∧ k_ ≠ gb769 ∧ k_ ≠ s_.2.2) (.slice A1_4 l1_4.length c1_4) l1_4) ∧ (w'.heap[gb767]? = some (.cells #[.int .i64 a0_0, .slice A0_1 l0_1.length c0_1, .int .i64 a0_2, .int .i64 a0_3, .slice A0_4 l0_4.length c0_4] 53 (0, 0))) ∧ (w'.heap[gb768]? = some (.cells #[.int .i64 a1_0, .slice A1_1 l1_1.length c1_1, .int .i64 a1_2, .int .i64 a1_3, .slice A1_4 l1_4.length c1_4] 53 (0, 0))) ∧ (w'.heap[gb769]? = some (.cells #[.int .i64 0, .slice none 0 0, .int .i64 0, .int .i64 0, .slice none 0 0] 53 (0, 0))) ∧ (w'.heap[s_.2.2]? = some (.cells #[.int .i64 0, .slice none 0 0, .int .i64 0, .int .i64 0, .slice none 0 0] 53 (0, 0))) ∧ (w.heap.size ≤ s_.2.2) ∧ (w.heap.size ≤ s_.2.2) ∧ (gb767 ≠ s_.2.2) ∧ (s_.2.2 ≠ gb767) ∧ (gb768 ≠ s_.2.2) ∧ (s_.2.2 ≠ gb768) ∧ (gb769 ≠ s_.2.2) ∧ (s_.2.2 ≠ gb769) ∧ (Below w.heap.size w w')) ?_ ?_
      rotate_left
      ·intro hCont
       refine two_ (i := 4) (j := 9) (Ni := some 49) (Nj := some 11) #[Y,Y,Y,Y,Y,Y,Y,Z,Z,Z,Z] #[Y,Y,Y,Y,Z,Y,Y,Z,Z,Y,Z] rfl rfl rfl rfl (two_of HT_.out (by kernel_rfl)) (by decide) (by decide) (fun K hK => ?_) (fun K hK => ?_)
       ·skip
        refine goes_ Try.func64 (by kernel_rfl) rfl #[.slice A0_1 l0_1.length c0_1] (by rfl) rfl rfl (by (try simp only [List.map_toArray, List.map_cons, List.map_nil]); first | done | rfl | (simp only [List.length_drop, List.length_take]; rfl)) ?_
        with_reducible refine (slices_Clone_int64_int64.calls _ _ l0_1 t775 _ ?side1 ?side2 A27.out).mono ?_
        (case side1 => repeat (first | exact (Kd.C_below HR0_1.out HB.out) | (with_reducible refine Kd.C_alloc ?_ _) | (with_reducible refine Kd.C_drewN ?_ _) | (with_reducible refine Kd.C_drew ?_)))
        (case side2 => exact HC0_1.out)
        rintro e w38 ⟨v776, rfl, ho0, hb⟩
        refine ⟨_, rfl, ?_⟩
        have n0_ := Aside0.mk (Kd.V_elder' O8.out (Kd.R_base ho0) hb)
        have n1_ := Aside0.mk (Kd.V_elder' O9.out (Kd.R_base ho0) hb)
        have n2_ := Aside0.mk (Kd.R_elder' HO774.out (Kd.R_base ho0) hb)
        have n3_ := Aside0.mk (Kd.R_lower (Kd.R_new' (Kd.R_newM (M := fun k_ => (w.heap.size ≤ k_)) ho0 (below_size HB.out) (fun k_ h_ => h_)) (Kd.R_lt HO774.out)) (below_size HB.out))
        have n4_ := Aside0.mk (blk_below BK767.out hb)
        have n5_ := Aside0.mk (blk_below BK768.out hb)
        have n6_ := Aside0.mk (blk_below BK769.out hb)
        have n7_ := Aside0.mk (below_step HB.out hb)
        clear O8 O9 HO774 BK767 BK768 BK769 HB
        have O8 := n0_
        have O9 := n1_
        have HO774 := n2_
        have HO777 := n3_
        have BK767 := n4_
        have BK768 := n5_
        have BK769 := n6_
        have HB := n7_
        clear n0_ n1_ n2_ n3_ n4_ n5_ n6_ n7_
        (try clear hb)
        (try clear hb2)
        (try clear hk)
        (try clear hi)
        (try clear ho0)
        refine hK.out _ _ ⟨(blk_cell BK767.out 0).trans rfl, (blk_cell BK767.out 1).trans rfl, (blk_cell BK767.out 2).trans rfl, (blk_cell BK767.out 3).trans rfl, (blk_cell BK767.out 4).trans rfl, (blk_cell BK768.out 0).trans rfl, (blk_cell BK768.out 1).trans rfl, (blk_cell BK768.out 2).trans rfl, (blk_cell BK768.out 3).trans rfl, (blk_cell BK768.out 4).trans rfl⟩ (fun hHeld => ?_)
        clear hK K
        refine norm_ (a' := ?_) ?_ ?_
        rotate_left
        ·show Act.put _ (some 49) _ = _
         simp only [Act.put, List.setIfInBounds_toArray, List.set_cons_zero, List.set_cons_succ, i64_w]
         rfl
        refine two_ (i := 7) (j := 9) (Ni := some 52) (Nj := some 11) #[Y,Y,Y,Y,Y,Y,Y,Y,Z,Z,Z] #[Y,Y,Y,Y,Y,Y,Y,Z,Z,Y,Z] rfl rfl rfl rfl (two_of HT_.out (by kernel_rfl)) (by decide) (by decide) (fun K hK => ?_) (fun K hK => ?_)
        ·skip
         refine Kd.R_append_rows_step (Kd.int .i64) (w0 := w) w.heap.size (by rfl) (.tmp 49) (.tmp 51) 35 2 (.int .i64 0) 8 rfl Try.underlying35 info2 rfl (by decide) (by omega) v776 t775 l1_1 _ _ _ (fun k_ => (w.heap.size ≤ k_) ∧ some k_ ≠ (.slice Ao36 y772.length co36 : Value).ownBlock) (fun _ => False) rfl rfl ?aO ?aR (fun _ _ h => h) (fun _ h => h.elim) ?aF ?aB ?aS ?aL ?_
         (case aR => repeat (first | exact (Kd.C_below HR1_1.out HB.out) | (with_reducible refine Kd.C_alloc ?_ _) | (with_reducible refine Kd.C_drewN ?_ _) | (with_reducible refine Kd.C_drew ?_)))
         (case aB => exact (by repeat (first | exact HB.out | refine below_set ?_ GE769.out)))
         (case aF => exact (fun k_ hk => ⟨(Nat.le_trans (below_size HB.out) hk), Kd.fresh' (Kd.R_lt HO774.out) k_ hk⟩))
         (case aO => exact (by (with_reducible repeat (first | apply Kd.R_alloc | apply Kd.R_drewN | apply Kd.R_drew)); exact Kd.R_mono HO777.out (fun _ hk => ⟨hk.1.1, hk.2⟩)))
         (case aS => exact (below_size HB.out))
         (case aL => have := LMc28.out; omega)
         intro v779 w39 ho hb hg hat
         rw [← Ny778.out] at ho
         have n0_ := Aside0.mk (Kd.V_afterv (ok := (fun k_ => ((P0_4_ k_ ∨ P1_4_ k_) ∨ w.heap.size ≤ k_) ∧ some k_ ≠ (.slice Ao36 y772.length co36 : Value).ownBlock ∧ k_ ≠ gb767 ∧ k_ ≠ gb768 ∧ k_ ≠ gb769)) (by (with_reducible repeat (first | apply Kd.V_alloc | apply Kd.V_drewN | apply Kd.V_drew)); exact Kd.V_mono O8.out (fun _ hk => ⟨⟨hk.1.1.1, ⟨hk.1.2, ⟨hk.1.1.2.1, ⟨hk.1.1.2.2.1, hk.1.1.2.2.2⟩⟩⟩⟩, hk.2⟩)) hg hat)
         have n1_ := Aside0.mk (Kd.V_afterv (ok := (fun k_ => ((P0_4_ k_ ∨ P1_4_ k_) ∨ w.heap.size ≤ k_) ∧ some k_ ≠ (.slice Ao36 y772.length co36 : Value).ownBlock ∧ k_ ≠ gb767 ∧ k_ ≠ gb768 ∧ k_ ≠ gb769)) (by (with_reducible repeat (first | apply Kd.V_alloc | apply Kd.V_drewN | apply Kd.V_drew)); exact Kd.V_mono O9.out (fun _ hk => ⟨⟨hk.1.1.1, ⟨hk.1.2, ⟨hk.1.1.2.1, ⟨hk.1.1.2.2.1, hk.1.1.2.2.2⟩⟩⟩⟩, hk.2⟩)) hg hat)
         have n2_ := Aside0.mk (blk_grown BK767.out hg (Kd.R_ne HO777.out BK767.out (by decide)))
         have n3_ := Aside0.mk (blk_grown BK768.out hg (Kd.R_ne HO777.out BK768.out (by decide)))
         have n4_ := Aside0.mk (blk_grown BK769.out hg (Kd.R_ne HO777.out BK769.out (by decide)))
         have n5_ := Aside0.mk (Kd.R_after (ok := (fun k_ => (w.heap.size ≤ k_))) (by (with_reducible repeat (first | apply Kd.R_alloc | apply Kd.R_drewN | apply Kd.R_drew)); exact Kd.R_mono HO774.out (fun _ hk => ⟨hk.1.1, hk.2⟩)) hg hat)
         have n6_ := Aside0.mk (hb)
         have n7_ := Aside0.mk (ho)
         clear O8 O9 BK767 BK768 BK769 HO774 HB HO777
         have O8 := n0_
         have O9 := n1_
         have BK767 := n2_
         have BK768 := n3_
         have BK769 := n4_
         have HO774 := n5_
         have HB := n6_
         have HO780 := n7_
         clear n0_ n1_ n2_ n3_ n4_ n5_ n6_ n7_ ho hb hg hat
         obtain ⟨Ao40, co40, eo40⟩ := Kd.R_slice HO780.out
         subst eo40
         refine hK.out _ _ ⟨(blk_cell BK767.out 0).trans rfl, (blk_cell BK767.out 1).trans rfl, (blk_cell BK767.out 2).trans rfl, (blk_cell BK767.out 3).trans rfl, (blk_cell BK767.out 4).trans rfl, (blk_cell BK768.out 0).trans rfl, (blk_cell BK768.out 1).trans rfl, (blk_cell BK768.out 2).trans rfl, (blk_cell BK768.out 3).trans rfl, (blk_cell BK768.out 4).trans rfl⟩ (fun hHeld => ?_)
         clear hK K
         refine norm_ (a' := ?_) ?_ ?_
         rotate_left
         ·show Act.put _ (some 52) _ = _
          simp only [Act.put, List.setIfInBounds_toArray, List.set_cons_zero, List.set_cons_succ, i64_w]
          rfl
         refine pure_ (i := 8) (N := some 53) (v := ?_) (a' := ?_) #[Y,Y,Y,Y,Y,Y,Y,Y,Y,Z,Z] rfl rfl (any_of HT_.out (by kernel_rfl)) (fun _ _ _ h => h) (Or.inl ⟨by rfl, ?_⟩) ?_ ?_
         rotate_left
         ·intro w'
          go_simp; with_reducible rfl
         rotate_left
         ·simp only [Act.put, List.setIfInBounds_toArray, List.set_cons_zero, List.set_cons_succ, i64_w]
          rfl
         refine one_ (i := 9) (N := some 11) #[Y,Y,Y,Y,Y,Y,Y,Y,Y,Y,Z] rfl rfl (one_of HT_.out (by kernel_rfl)) (by decide) (fun K hK => ?_)
         refine box_step ?hg (N := 11) ?hd (cs := #[.int .i64 0, .slice none 0 0, .int .i64 0, .int .i64 0, .slice none 0 0]) (t := 53) ?hr ?_; (case hd => rfl); (case hg => rfl); (case hr => first | (go_simp; done) | (go_simp; rfl))
         intro gb781 hg w41 hbox hb
         have n0_ := Aside0.mk (Kd.V_below (Kd.V_elderB O8.out gb781 (Nat.le_of_eq hg.symm)) hb)
         have n1_ := Aside0.mk (Kd.V_below (Kd.V_elderB O9.out gb781 (Nat.le_of_eq hg.symm)) hb)
         have n2_ := Aside0.mk (Kd.R_below HO774.out hb)
         have n3_ := Aside0.mk (Kd.R_below HO780.out hb)
         have n4_ := Aside0.mk (blk_below BK767.out hb)
         have n5_ := Aside0.mk (blk_below BK768.out hb)
         have n6_ := Aside0.mk (blk_below BK769.out hb)
         have n7_ := Aside0.mk (below_step HB.out hb)
         have n8_ := Aside0.mk (hbox)
         have n9_ := Aside0.mk ((by rw [hg]; exact (below_size HB.out) : w.heap.size ≤ gb781))
         have n10_ := Aside0.mk ((by rw [hg]; exact (below_size HB.out) : w.heap.size ≤ gb781))
         have n11_ := Aside0.mk ((by rw [hg]; exact Nat.ne_of_lt (blk_lt (g := gb767) (o := .cells #[.int .i64 a0_0, .slice A0_1 l0_1.length c0_1, .int .i64 a0_2, .int .i64 a0_3, .slice A0_4 l0_4.length c0_4] 53 (0, 0)) BK767.out) : gb767 ≠ gb781))
         have n12_ := Aside0.mk ((by rw [hg]; exact Nat.ne_of_gt (blk_lt (g := gb767) (o := .cells #[.int .i64 a0_0, .slice A0_1 l0_1.length c0_1, .int .i64 a0_2, .int .i64 a0_3, .slice A0_4 l0_4.length c0_4] 53 (0, 0)) BK767.out) : gb781 ≠ gb767))
         have n13_ := Aside0.mk ((by rw [hg]; exact Nat.ne_of_lt (blk_lt (g := gb768) (o := .cells #[.int .i64 a1_0, .slice A1_1 l1_1.length c1_1, .int .i64 a1_2, .int .i64 a1_3, .slice A1_4 l1_4.length c1_4] 53 (0, 0)) BK768.out) : gb768 ≠ gb781))
         have n14_ := Aside0.mk ((by rw [hg]; exact Nat.ne_of_gt (blk_lt (g := gb768) (o := .cells #[.int .i64 a1_0, .slice A1_1 l1_1.length c1_1, .int .i64 a1_2, .int .i64 a1_3, .slice A1_4 l1_4.length c1_4] 53 (0, 0)) BK768.out) : gb781 ≠ gb768))
         have n15_ := Aside0.mk ((by rw [hg]; exact Nat.ne_of_lt (blk_lt (g := gb769) (o := .cells #[.int .i64 0, .slice none 0 0, .int .i64 0, .int .i64 0, .slice none 0 0] 53 (0, 0)) BK769.out) : gb769 ≠ gb781))
         have n16_ := Aside0.mk ((by rw [hg]; exact Nat.ne_of_gt (blk_lt (g := gb769) (o := .cells #[.int .i64 0, .slice none 0 0, .int .i64 0, .int .i64 0, .slice none 0 0] 53 (0, 0)) BK769.out) : gb781 ≠ gb769))
         clear O8 O9 HO774 HO780 BK767 BK768 BK769 HB
         have O8 := n0_
         have O9 := n1_
         have HO774 := n2_
         have HO780 := n3_
         have BK767 := n4_
         have BK768 := n5_
         have BK769 := n6_
         have HB := n7_
         have BK781 := n8_
         have GW781 := n9_
         have GE781 := n10_
         have NB767_781 := n11_
         have NB781_767 := n12_
         have NB768_781 := n13_
         have NB781_768 := n14_
         have NB769_781 := n15_
         have NB781_769 := n16_
         clear n0_ n1_ n2_ n3_ n4_ n5_ n6_ n7_ n8_ n9_ n10_ n11_ n12_ n13_ n14_ n15_ n16_ hb hbox hg
         refine hK.out _ _ ⟨(blk_cell BK767.out 0).trans rfl, (blk_cell BK767.out 1).trans rfl, (blk_cell BK767.out 2).trans rfl, (blk_cell BK767.out 3).trans rfl, (blk_cell BK767.out 4).trans rfl, (blk_cell BK768.out 0).trans rfl, (blk_cell BK768.out 1).trans rfl, (blk_cell BK768.out 2).trans rfl, (blk_cell BK768.out 3).trans rfl, (blk_cell BK768.out 4).trans rfl⟩ (fun hHeld => ?_)
         clear hK K
         refine norm_ (a' := ?_) ?_ ?_
         rotate_left
         ·show Act.put _ (some 11) _ = _
          simp only [Act.put, List.setIfInBounds_toArray, List.set_cons_zero, List.set_cons_succ, i64_w]
          rfl
         exact norm_ (by simp only [putAll, Act.put, List.setIfInBounds_toArray, List.set_cons_zero, List.set_cons_succ]) (hCont (v776, .slice Ao40 y778.length co40, gb781) _ ⟨hHeld, HO774.out, HO780.out, (by (with_reducible repeat (first | apply Kd.V_alloc | apply Kd.V_drewN | apply Kd.V_drew)); exact Kd.V_mono O8.out (fun _ hk => ⟨hk.1.1.1, ⟨hk.1.1.2.1, ⟨hk.1.2, ⟨hk.1.1.2.2.1, ⟨hk.1.1.2.2.2.1, ⟨hk.1.1.2.2.2.2, hk.2⟩⟩⟩⟩⟩⟩)), (by (with_reducible repeat (first | apply Kd.V_alloc | apply Kd.V_drewN | apply Kd.V_drew)); exact Kd.V_mono O9.out (fun _ hk => ⟨hk.1.1.1, ⟨hk.1.1.2.1, ⟨hk.1.2, ⟨hk.1.1.2.2.1, ⟨hk.1.1.2.2.2.1, ⟨hk.1.1.2.2.2.2, hk.2⟩⟩⟩⟩⟩⟩)), BK767.out, BK768.out, BK769.out, BK781.out, GW781.out, GE781.out, NB767_781.out, NB781_767.out, NB768_781.out, NB781_768.out, NB769_781.out, NB781_769.out, (by repeat (first | exact HB.out | refine below_set ?_ GE769.out | refine below_set ?_ GE781.out))⟩)
        ·skip
         refine box_step ?hg (N := 11) ?hd (cs := #[.int .i64 0, .slice none 0 0, .int .i64 0, .int .i64 0, .slice none 0 0]) (t := 53) ?hr ?_; (case hd => rfl); (case hg => rfl); (case hr => first | (go_simp; done) | (go_simp; rfl))
         intro gb781 hg w39 hbox hb
         have n0_ := Aside0.mk (Kd.V_below (Kd.V_elderB O8.out gb781 (Nat.le_of_eq hg.symm)) hb)
         have n1_ := Aside0.mk (Kd.V_below (Kd.V_elderB O9.out gb781 (Nat.le_of_eq hg.symm)) hb)
         have n2_ := Aside0.mk (Kd.R_below HO774.out hb)
         have n3_ := Aside0.mk (Kd.R_below HO777.out hb)
         have n4_ := Aside0.mk (blk_below BK767.out hb)
         have n5_ := Aside0.mk (blk_below BK768.out hb)
         have n6_ := Aside0.mk (blk_below BK769.out hb)
         have n7_ := Aside0.mk (below_step HB.out hb)
         have n8_ := Aside0.mk (hbox)
         have n9_ := Aside0.mk ((by rw [hg]; exact (below_size HB.out) : w.heap.size ≤ gb781))
         have n10_ := Aside0.mk ((by rw [hg]; exact (below_size HB.out) : w.heap.size ≤ gb781))
         have n11_ := Aside0.mk ((by rw [hg]; exact Nat.ne_of_lt (blk_lt (g := gb767) (o := .cells #[.int .i64 a0_0, .slice A0_1 l0_1.length c0_1, .int .i64 a0_2, .int .i64 a0_3, .slice A0_4 l0_4.length c0_4] 53 (0, 0)) BK767.out) : gb767 ≠ gb781))
         have n12_ := Aside0.mk ((by rw [hg]; exact Nat.ne_of_gt (blk_lt (g := gb767) (o := .cells #[.int .i64 a0_0, .slice A0_1 l0_1.length c0_1, .int .i64 a0_2, .int .i64 a0_3, .slice A0_4 l0_4.length c0_4] 53 (0, 0)) BK767.out) : gb781 ≠ gb767))
         have n13_ := Aside0.mk ((by rw [hg]; exact Nat.ne_of_lt (blk_lt (g := gb768) (o := .cells #[.int .i64 a1_0, .slice A1_1 l1_1.length c1_1, .int .i64 a1_2, .int .i64 a1_3, .slice A1_4 l1_4.length c1_4] 53 (0, 0)) BK768.out) : gb768 ≠ gb781))
         have n14_ := Aside0.mk ((by rw [hg]; exact Nat.ne_of_gt (blk_lt (g := gb768) (o := .cells #[.int .i64 a1_0, .slice A1_1 l1_1.length c1_1, .int .i64 a1_2, .int .i64 a1_3, .slice A1_4 l1_4.length c1_4] 53 (0, 0)) BK768.out) : gb781 ≠ gb768))
         have n15_ := Aside0.mk ((by rw [hg]; exact Nat.ne_of_lt (blk_lt (g := gb769) (o := .cells #[.int .i64 0, .slice none 0 0, .int .i64 0, .int .i64 0, .slice none 0 0] 53 (0, 0)) BK769.out) : gb769 ≠ gb781))
         have n16_ := Aside0.mk ((by rw [hg]; exact Nat.ne_of_gt (blk_lt (g := gb769) (o := .cells #[.int .i64 0, .slice none 0 0, .int .i64 0, .int .i64 0, .slice none 0 0] 53 (0, 0)) BK769.out) : gb781 ≠ gb769))
         clear O8 O9 HO774 HO777 BK767 BK768 BK769 HB
         have O8 := n0_
         have O9 := n1_
         have HO774 := n2_
         have HO777 := n3_
         have BK767 := n4_
         have BK768 := n5_
         have BK769 := n6_
         have HB := n7_
         have BK781 := n8_
         have GW781 := n9_
         have GE781 := n10_
         have NB767_781 := n11_
         have NB781_767 := n12_
         have NB768_781 := n13_
         have NB781_768 := n14_
         have NB769_781 := n15_
         have NB781_769 := n16_
         clear n0_ n1_ n2_ n3_ n4_ n5_ n6_ n7_ n8_ n9_ n10_ n11_ n12_ n13_ n14_ n15_ n16_ hb hbox hg
         refine hK.out _ _ ⟨(blk_cell BK767.out 0).trans rfl, (blk_cell BK767.out 1).trans rfl, (blk_cell BK767.out 2).trans rfl, (blk_cell BK767.out 3).trans rfl, (blk_cell BK767.out 4).trans rfl, (blk_cell BK768.out 0).trans rfl, (blk_cell BK768.out 1).trans rfl, (blk_cell BK768.out 2).trans rfl, (blk_cell BK768.out 3).trans rfl, (blk_cell BK768.out 4).trans rfl⟩ (fun hHeld => ?_)
         clear hK K
         refine norm_ (a' := ?_) ?_ ?_
         rotate_left
         ·show Act.put _ (some 11) _ = _
          simp only [Act.put, List.setIfInBounds_toArray, List.set_cons_zero, List.set_cons_succ, i64_w]
          rfl
         refine one_ (i := 7) (N := some 52) #[Y,Y,Y,Y,Y,Y,Y,Y,Z,Y,Z] rfl rfl (one_of HT_.out (by kernel_rfl)) (by decide) (fun K hK => ?_)
         refine Kd.R_append_rows_step (Kd.int .i64) (w0 := w) w.heap.size (by rfl) (.tmp 49) (.tmp 51) 35 2 (.int .i64 0) 8 rfl Try.underlying35 info2 rfl (by decide) (by omega) v776 t775 l1_1 _ _ _ (fun k_ => (w.heap.size ≤ k_) ∧ some k_ ≠ (.slice Ao36 y772.length co36 : Value).ownBlock) (fun _ => False) rfl rfl ?aO ?aR (fun _ _ h => h) (fun _ h => h.elim) ?aF ?aB ?aS ?aL ?_
         (case aR => repeat (first | exact (Kd.C_below HR1_1.out HB.out) | (with_reducible refine Kd.C_alloc ?_ _) | (with_reducible refine Kd.C_drewN ?_ _) | (with_reducible refine Kd.C_drew ?_)))
         (case aB => exact (by repeat (first | exact HB.out | refine below_set ?_ GE769.out | refine below_set ?_ GE781.out)))
         (case aF => exact (fun k_ hk => ⟨(Nat.le_trans (below_size HB.out) hk), Kd.fresh' (Kd.R_lt HO774.out) k_ hk⟩))
         (case aO => exact (by (with_reducible repeat (first | apply Kd.R_alloc | apply Kd.R_drewN | apply Kd.R_drew)); exact Kd.R_mono HO777.out (fun _ hk => ⟨hk.1.1, hk.2⟩)))
         (case aS => exact (below_size HB.out))
         (case aL => have := LMc28.out; omega)
         intro v779 w40 ho hb hg hat
         rw [← Ny778.out] at ho
         have n0_ := Aside0.mk (Kd.V_afterv (ok := (fun k_ => ((P0_4_ k_ ∨ P1_4_ k_) ∨ w.heap.size ≤ k_) ∧ some k_ ≠ (.slice Ao36 y772.length co36 : Value).ownBlock ∧ k_ ≠ gb767 ∧ k_ ≠ gb768 ∧ k_ ≠ gb769 ∧ k_ ≠ gb781)) (by (with_reducible repeat (first | apply Kd.V_alloc | apply Kd.V_drewN | apply Kd.V_drew)); exact Kd.V_mono O8.out (fun _ hk => ⟨⟨hk.1.1.1.1, ⟨hk.1.1.2, ⟨hk.1.1.1.2.1, ⟨hk.1.1.1.2.2.1, ⟨hk.1.1.1.2.2.2, hk.2⟩⟩⟩⟩⟩, hk.1.2⟩)) hg hat)
         have n1_ := Aside0.mk (Kd.V_afterv (ok := (fun k_ => ((P0_4_ k_ ∨ P1_4_ k_) ∨ w.heap.size ≤ k_) ∧ some k_ ≠ (.slice Ao36 y772.length co36 : Value).ownBlock ∧ k_ ≠ gb767 ∧ k_ ≠ gb768 ∧ k_ ≠ gb769 ∧ k_ ≠ gb781)) (by (with_reducible repeat (first | apply Kd.V_alloc | apply Kd.V_drewN | apply Kd.V_drew)); exact Kd.V_mono O9.out (fun _ hk => ⟨⟨hk.1.1.1.1, ⟨hk.1.1.2, ⟨hk.1.1.1.2.1, ⟨hk.1.1.1.2.2.1, ⟨hk.1.1.1.2.2.2, hk.2⟩⟩⟩⟩⟩, hk.1.2⟩)) hg hat)
         have n2_ := Aside0.mk (blk_grown BK767.out hg (Kd.R_ne HO777.out BK767.out (by decide)))
         have n3_ := Aside0.mk (blk_grown BK768.out hg (Kd.R_ne HO777.out BK768.out (by decide)))
         have n4_ := Aside0.mk (blk_grown BK769.out hg (Kd.R_ne HO777.out BK769.out (by decide)))
         have n5_ := Aside0.mk (Kd.R_after (ok := (fun k_ => (w.heap.size ≤ k_))) (by (with_reducible repeat (first | apply Kd.R_alloc | apply Kd.R_drewN | apply Kd.R_drew)); exact Kd.R_mono HO774.out (fun _ hk => ⟨hk.1.1, hk.2⟩)) hg hat)
         have n6_ := Aside0.mk (blk_grown BK781.out hg (Kd.R_ne HO777.out BK781.out (by decide)))
         have n7_ := Aside0.mk (hb)
         have n8_ := Aside0.mk (ho)
         clear O8 O9 BK767 BK768 BK769 HO774 BK781 HB HO777
         have O8 := n0_
         have O9 := n1_
         have BK767 := n2_
         have BK768 := n3_
         have BK769 := n4_
         have HO774 := n5_
         have BK781 := n6_
         have HB := n7_
         have HO780 := n8_
         clear n0_ n1_ n2_ n3_ n4_ n5_ n6_ n7_ n8_ ho hb hg hat
         obtain ⟨Ao41, co41, eo41⟩ := Kd.R_slice HO780.out
         subst eo41
         refine hK.out _ _ ⟨(blk_cell BK767.out 0).trans rfl, (blk_cell BK767.out 1).trans rfl, (blk_cell BK767.out 2).trans rfl, (blk_cell BK767.out 3).trans rfl, (blk_cell BK767.out 4).trans rfl, (blk_cell BK768.out 0).trans rfl, (blk_cell BK768.out 1).trans rfl, (blk_cell BK768.out 2).trans rfl, (blk_cell BK768.out 3).trans rfl, (blk_cell BK768.out 4).trans rfl⟩ (fun hHeld => ?_)
         clear hK K
         refine norm_ (a' := ?_) ?_ ?_
         rotate_left
         ·show Act.put _ (some 52) _ = _
          simp only [Act.put, List.setIfInBounds_toArray, List.set_cons_zero, List.set_cons_succ, i64_w]
          rfl
         refine pure_ (i := 8) (N := some 53) (v := ?_) (a' := ?_) #[Y,Y,Y,Y,Y,Y,Y,Y,Y,Y,Z] rfl rfl (any_of HT_.out (by kernel_rfl)) (fun _ _ _ h => h) (Or.inl ⟨by rfl, ?_⟩) ?_ ?_
         rotate_left
         ·intro w'
          go_simp; with_reducible rfl
         rotate_left
         ·simp only [Act.put, List.setIfInBounds_toArray, List.set_cons_zero, List.set_cons_succ, i64_w]
          rfl
         exact norm_ (by simp only [putAll, Act.put, List.setIfInBounds_toArray, List.set_cons_zero, List.set_cons_succ]) (hCont (v776, .slice Ao41 y778.length co41, gb781) _ ⟨hHeld, HO774.out, HO780.out, (by (with_reducible repeat (first | apply Kd.V_alloc | apply Kd.V_drewN | apply Kd.V_drew)); exact Kd.V_mono O8.out (fun _ hk => ⟨hk.1.1, ⟨hk.1.2.1, ⟨hk.2, ⟨hk.1.2.2.1, ⟨hk.1.2.2.2.1, ⟨hk.1.2.2.2.2.1, hk.1.2.2.2.2.2⟩⟩⟩⟩⟩⟩)), (by (with_reducible repeat (first | apply Kd.V_alloc | apply Kd.V_drewN | apply Kd.V_drew)); exact Kd.V_mono O9.out (fun _ hk => ⟨hk.1.1, ⟨hk.1.2.1, ⟨hk.2, ⟨hk.1.2.2.1, ⟨hk.1.2.2.2.1, ⟨hk.1.2.2.2.2.1, hk.1.2.2.2.2.2⟩⟩⟩⟩⟩⟩)), BK767.out, BK768.out, BK769.out, BK781.out, GW781.out, GE781.out, NB767_781.out, NB781_767.out, NB768_781.out, NB781_768.out, NB769_781.out, NB781_769.out, (by repeat (first | exact HB.out | refine below_set ?_ GE769.out | refine below_set ?_ GE781.out))⟩)
       ·skip
        refine box_step ?hg (N := 11) ?hd (cs := #[.int .i64 0, .slice none 0 0, .int .i64 0, .int .i64 0, .slice none 0 0]) (t := 53) ?hr ?_; (case hd => rfl); (case hg => rfl); (case hr => first | (go_simp; done) | (go_simp; rfl))
        intro gb781 hg w38 hbox hb
        have n0_ := Aside0.mk (Kd.V_below (Kd.V_elderB O8.out gb781 (Nat.le_of_eq hg.symm)) hb)
        have n1_ := Aside0.mk (Kd.V_below (Kd.V_elderB O9.out gb781 (Nat.le_of_eq hg.symm)) hb)
        have n2_ := Aside0.mk (Kd.R_below HO774.out hb)
        have n3_ := Aside0.mk (blk_below BK767.out hb)
        have n4_ := Aside0.mk (blk_below BK768.out hb)
        have n5_ := Aside0.mk (blk_below BK769.out hb)
        have n6_ := Aside0.mk (below_step HB.out hb)
        have n7_ := Aside0.mk (hbox)
        have n8_ := Aside0.mk ((by rw [hg]; exact (below_size HB.out) : w.heap.size ≤ gb781))
        have n9_ := Aside0.mk ((by rw [hg]; exact (below_size HB.out) : w.heap.size ≤ gb781))
        have n10_ := Aside0.mk ((by rw [hg]; exact Nat.ne_of_lt (blk_lt (g := gb767) (o := .cells #[.int .i64 a0_0, .slice A0_1 l0_1.length c0_1, .int .i64 a0_2, .int .i64 a0_3, .slice A0_4 l0_4.length c0_4] 53 (0, 0)) BK767.out) : gb767 ≠ gb781))
        have n11_ := Aside0.mk ((by rw [hg]; exact Nat.ne_of_gt (blk_lt (g := gb767) (o := .cells #[.int .i64 a0_0, .slice A0_1 l0_1.length c0_1, .int .i64 a0_2, .int .i64 a0_3, .slice A0_4 l0_4.length c0_4] 53 (0, 0)) BK767.out) : gb781 ≠ gb767))
        have n12_ := Aside0.mk ((by rw [hg]; exact Nat.ne_of_lt (blk_lt (g := gb768) (o := .cells #[.int .i64 a1_0, .slice A1_1 l1_1.length c1_1, .int .i64 a1_2, .int .i64 a1_3, .slice A1_4 l1_4.length c1_4] 53 (0, 0)) BK768.out) : gb768 ≠ gb781))
        have n13_ := Aside0.mk ((by rw [hg]; exact Nat.ne_of_gt (blk_lt (g := gb768) (o := .cells #[.int .i64 a1_0, .slice A1_1 l1_1.length c1_1, .int .i64 a1_2, .int .i64 a1_3, .slice A1_4 l1_4.length c1_4] 53 (0, 0)) BK768.out) : gb781 ≠ gb768))
        have n14_ := Aside0.mk ((by rw [hg]; exact Nat.ne_of_lt (blk_lt (g := gb769) (o := .cells #[.int .i64 0, .slice none 0 0, .int .i64 0, .int .i64 0, .slice none 0 0] 53 (0, 0)) BK769.out) : gb769 ≠ gb781))
        have n15_ := Aside0.mk ((by rw [hg]; exact Nat.ne_of_gt (blk_lt (g := gb769) (o := .cells #[.int .i64 0, .slice none 0 0, .int .i64 0, .int .i64 0, .slice none 0 0] 53 (0, 0)) BK769.out) : gb781 ≠ gb769))
        clear O8 O9 HO774 BK767 BK768 BK769 HB
        have O8 := n0_
        have O9 := n1_
        have HO774 := n2_
        have BK767 := n3_
        have BK768 := n4_
        have BK769 := n5_
        have HB := n6_
        have BK781 := n7_
        have GW781 := n8_
        have GE781 := n9_
        have NB767_781 := n10_
        have NB781_767 := n11_
        have NB768_781 := n12_
        have NB781_768 := n13_
        have NB769_781 := n14_
        have NB781_769 := n15_
        clear n0_ n1_ n2_ n3_ n4_ n5_ n6_ n7_ n8_ n9_ n10_ n11_ n12_ n13_ n14_ n15_ hb hbox hg
        refine hK.out _ _ ⟨(blk_cell BK767.out 0).trans rfl, (blk_cell BK767.out 1).trans rfl, (blk_cell BK767.out 2).trans rfl, (blk_cell BK767.out 3).trans rfl, (blk_cell BK767.out 4).trans rfl, (blk_cell BK768.out 0).trans rfl, (blk_cell BK768.out 1).trans rfl, (blk_cell BK768.out 2).trans rfl, (blk_cell BK768.out 3).trans rfl, (blk_cell BK768.out 4).trans rfl⟩ (fun hHeld => ?_)
        clear hK K
        refine norm_ (a' := ?_) ?_ ?_
        rotate_left
        ·show Act.put _ (some 11) _ = _
         simp only [Act.put, List.setIfInBounds_toArray, List.set_cons_zero, List.set_cons_succ, i64_w]
         rfl
        refine one_ (i := 4) (N := some 49) #[Y,Y,Y,Y,Y,Y,Y,Z,Z,Y,Z] rfl rfl (one_of HT_.out (by kernel_rfl)) (by decide) (fun K hK => ?_)
        refine goes_ Try.func64 (by kernel_rfl) rfl #[.slice A0_1 l0_1.length c0_1] (by rfl) rfl rfl (by (try simp only [List.map_toArray, List.map_cons, List.map_nil]); first | done | rfl | (simp only [List.length_drop, List.length_take]; rfl)) ?_
        with_reducible refine (slices_Clone_int64_int64.calls _ _ l0_1 t775 _ ?side1 ?side2 A27.out).mono ?_
        (case side1 => repeat (first | exact (Kd.C_below HR0_1.out HB.out) | (with_reducible refine Kd.C_alloc ?_ _) | (with_reducible refine Kd.C_drewN ?_ _) | (with_reducible refine Kd.C_drew ?_)))
        (case side2 => exact HC0_1.out)
        rintro e w39 ⟨v776, rfl, ho0, hb⟩
        refine ⟨_, rfl, ?_⟩
        have n0_ := Aside0.mk (Kd.V_elder' O8.out (Kd.R_base ho0) hb)
        have n1_ := Aside0.mk (Kd.V_elder' O9.out (Kd.R_base ho0) hb)
        have n2_ := Aside0.mk (Kd.R_elder' HO774.out (Kd.R_base ho0) hb)
        have n3_ := Aside0.mk (Kd.R_lower (Kd.R_new' (Kd.R_newM (M := fun k_ => (w.heap.size ≤ k_)) ho0 (below_size HB.out) (fun k_ h_ => h_)) (Kd.R_lt HO774.out)) (below_size HB.out))
        have n4_ := Aside0.mk (blk_below BK767.out hb)
        have n5_ := Aside0.mk (blk_below BK768.out hb)
        have n6_ := Aside0.mk (blk_below BK769.out hb)
        have n7_ := Aside0.mk (blk_below BK781.out hb)
        have n8_ := Aside0.mk (below_step HB.out hb)
        clear O8 O9 HO774 BK767 BK768 BK769 BK781 HB
        have O8 := n0_
        have O9 := n1_
        have HO774 := n2_
        have HO777 := n3_
        have BK767 := n4_
        have BK768 := n5_
        have BK769 := n6_
        have BK781 := n7_
        have HB := n8_
        clear n0_ n1_ n2_ n3_ n4_ n5_ n6_ n7_ n8_
        (try clear hb)
        (try clear hb2)
        (try clear hk)
        (try clear hi)
        (try clear ho0)
        refine hK.out _ _ ⟨(blk_cell BK767.out 0).trans rfl, (blk_cell BK767.out 1).trans rfl, (blk_cell BK767.out 2).trans rfl, (blk_cell BK767.out 3).trans rfl, (blk_cell BK767.out 4).trans rfl, (blk_cell BK768.out 0).trans rfl, (blk_cell BK768.out 1).trans rfl, (blk_cell BK768.out 2).trans rfl, (blk_cell BK768.out 3).trans rfl, (blk_cell BK768.out 4).trans rfl⟩ (fun hHeld => ?_)
        clear hK K
        refine norm_ (a' := ?_) ?_ ?_
        rotate_left
        ·show Act.put _ (some 49) _ = _
         simp only [Act.put, List.setIfInBounds_toArray, List.set_cons_zero, List.set_cons_succ, i64_w]
         rfl
        refine one_ (i := 7) (N := some 52) #[Y,Y,Y,Y,Y,Y,Y,Y,Z,Y,Z] rfl rfl (one_of HT_.out (by kernel_rfl)) (by decide) (fun K hK => ?_)
        refine Kd.R_append_rows_step (Kd.int .i64) (w0 := w) w.heap.size (by rfl) (.tmp 49) (.tmp 51) 35 2 (.int .i64 0) 8 rfl Try.underlying35 info2 rfl (by decide) (by omega) v776 t775 l1_1 _ _ _ (fun k_ => (w.heap.size ≤ k_) ∧ some k_ ≠ (.slice Ao36 y772.length co36 : Value).ownBlock) (fun _ => False) rfl rfl ?aO ?aR (fun _ _ h => h) (fun _ h => h.elim) ?aF ?aB ?aS ?aL ?_
        (case aR => repeat (first | exact (Kd.C_below HR1_1.out HB.out) | (with_reducible refine Kd.C_alloc ?_ _) | (with_reducible refine Kd.C_drewN ?_ _) | (with_reducible refine Kd.C_drew ?_)))
        (case aB => exact (by repeat (first | exact HB.out | refine below_set ?_ GE769.out | refine below_set ?_ GE781.out)))
        (case aF => exact (fun k_ hk => ⟨(Nat.le_trans (below_size HB.out) hk), Kd.fresh' (Kd.R_lt HO774.out) k_ hk⟩))
        (case aO => exact (by (with_reducible repeat (first | apply Kd.R_alloc | apply Kd.R_drewN | apply Kd.R_drew)); exact Kd.R_mono HO777.out (fun _ hk => ⟨hk.1.1, hk.2⟩)))
        (case aS => exact (below_size HB.out))
        (case aL => have := LMc28.out; omega)
        intro v779 w40 ho hb hg hat
        rw [← Ny778.out] at ho
        have n0_ := Aside0.mk (Kd.V_afterv (ok := (fun k_ => ((P0_4_ k_ ∨ P1_4_ k_) ∨ w.heap.size ≤ k_) ∧ some k_ ≠ (.slice Ao36 y772.length co36 : Value).ownBlock ∧ k_ ≠ gb767 ∧ k_ ≠ gb768 ∧ k_ ≠ gb769 ∧ k_ ≠ gb781)) (by (with_reducible repeat (first | apply Kd.V_alloc | apply Kd.V_drewN | apply Kd.V_drew)); exact Kd.V_mono O8.out (fun _ hk => ⟨⟨hk.1.1.1.1, ⟨hk.1.1.2, ⟨hk.1.1.1.2.1, ⟨hk.1.1.1.2.2.1, ⟨hk.1.1.1.2.2.2, hk.1.2⟩⟩⟩⟩⟩, hk.2⟩)) hg hat)
        have n1_ := Aside0.mk (Kd.V_afterv (ok := (fun k_ => ((P0_4_ k_ ∨ P1_4_ k_) ∨ w.heap.size ≤ k_) ∧ some k_ ≠ (.slice Ao36 y772.length co36 : Value).ownBlock ∧ k_ ≠ gb767 ∧ k_ ≠ gb768 ∧ k_ ≠ gb769 ∧ k_ ≠ gb781)) (by (with_reducible repeat (first | apply Kd.V_alloc | apply Kd.V_drewN | apply Kd.V_drew)); exact Kd.V_mono O9.out (fun _ hk => ⟨⟨hk.1.1.1.1, ⟨hk.1.1.2, ⟨hk.1.1.1.2.1, ⟨hk.1.1.1.2.2.1, ⟨hk.1.1.1.2.2.2, hk.1.2⟩⟩⟩⟩⟩, hk.2⟩)) hg hat)
        have n2_ := Aside0.mk (blk_grown BK767.out hg (Kd.R_ne HO777.out BK767.out (by decide)))
        have n3_ := Aside0.mk (blk_grown BK768.out hg (Kd.R_ne HO777.out BK768.out (by decide)))
        have n4_ := Aside0.mk (blk_grown BK769.out hg (Kd.R_ne HO777.out BK769.out (by decide)))
        have n5_ := Aside0.mk (Kd.R_after (ok := (fun k_ => (w.heap.size ≤ k_))) (by (with_reducible repeat (first | apply Kd.R_alloc | apply Kd.R_drewN | apply Kd.R_drew)); exact Kd.R_mono HO774.out (fun _ hk => ⟨hk.1.1, hk.2⟩)) hg hat)
        have n6_ := Aside0.mk (blk_grown BK781.out hg (Kd.R_ne HO777.out BK781.out (by decide)))
        have n7_ := Aside0.mk (hb)
        have n8_ := Aside0.mk (ho)
        clear O8 O9 BK767 BK768 BK769 HO774 BK781 HB HO777
        have O8 := n0_
        have O9 := n1_
        have BK767 := n2_
        have BK768 := n3_
        have BK769 := n4_
        have HO774 := n5_
        have BK781 := n6_
        have HB := n7_
        have HO780 := n8_
        clear n0_ n1_ n2_ n3_ n4_ n5_ n6_ n7_ n8_ ho hb hg hat
        obtain ⟨Ao41, co41, eo41⟩ := Kd.R_slice HO780.out
        subst eo41
        refine hK.out _ _ ⟨(blk_cell BK767.out 0).trans rfl, (blk_cell BK767.out 1).trans rfl, (blk_cell BK767.out 2).trans rfl, (blk_cell BK767.out 3).trans rfl, (blk_cell BK767.out 4).trans rfl, (blk_cell BK768.out 0).trans rfl, (blk_cell BK768.out 1).trans rfl, (blk_cell BK768.out 2).trans rfl, (blk_cell BK768.out 3).trans rfl, (blk_cell BK768.out 4).trans rfl⟩ (fun hHeld => ?_)
        clear hK K
        refine norm_ (a' := ?_) ?_ ?_
        rotate_left
        ·show Act.put _ (some 52) _ = _
         simp only [Act.put, List.setIfInBounds_toArray, List.set_cons_zero, List.set_cons_succ, i64_w]
         rfl
        refine pure_ (i := 8) (N := some 53) (v := ?_) (a' := ?_) #[Y,Y,Y,Y,Y,Y,Y,Y,Y,Y,Z] rfl rfl (any_of HT_.out (by kernel_rfl)) (fun _ _ _ h => h) (Or.inl ⟨by rfl, ?_⟩) ?_ ?_
        rotate_left
        ·intro w'
         go_simp; with_reducible rfl
        rotate_left
        ·simp only [Act.put, List.setIfInBounds_toArray, List.set_cons_zero, List.set_cons_succ, i64_w]
         rfl
        exact norm_ (by simp only [putAll, Act.put, List.setIfInBounds_toArray, List.set_cons_zero, List.set_cons_succ]) (hCont (v776, .slice Ao41 y778.length co41, gb781) _ ⟨hHeld, HO774.out, HO780.out, (by (with_reducible repeat (first | apply Kd.V_alloc | apply Kd.V_drewN | apply Kd.V_drew)); exact Kd.V_mono O8.out (fun _ hk => ⟨hk.1.1, ⟨hk.1.2.1, ⟨hk.2, ⟨hk.1.2.2.1, ⟨hk.1.2.2.2.1, ⟨hk.1.2.2.2.2.1, hk.1.2.2.2.2.2⟩⟩⟩⟩⟩⟩)), (by (with_reducible repeat (first | apply Kd.V_alloc | apply Kd.V_drewN | apply Kd.V_drew)); exact Kd.V_mono O9.out (fun _ hk => ⟨hk.1.1, ⟨hk.1.2.1, ⟨hk.2, ⟨hk.1.2.2.1, ⟨hk.1.2.2.2.1, ⟨hk.1.2.2.2.2.1, hk.1.2.2.2.2.2⟩⟩⟩⟩⟩⟩)), BK767.out, BK768.out, BK769.out, BK781.out, GW781.out, GE781.out, NB767_781.out, NB781_767.out, NB768_781.out, NB781_768.out, NB769_781.out, NB781_769.out, (by repeat (first | exact HB.out | refine below_set ?_ GE769.out | refine below_set ?_ GE781.out))⟩)
      rintro ⟨v776, v779, gb781⟩ w42 ⟨hS_, h0_, h1_, h2_, h3_, h4_, h5_, h6_, h7_, h8_, h9_, h10_, h11_, h12_, h13_, h14_, h15_, h16_⟩
      have n0_ : Aside0 (Kd.R (Kd.int .i64) 2 w42 w.heap.size (fun k_ => (w.heap.size ≤ k_) ∧ some k_ ≠ (v779 : Value).ownBlock) (.slice Ao36 y772.length co36) y772) := ⟨h0_⟩
      have n1_ : Aside0 (Kd.R (Kd.int .i64) 2 w42 w.heap.size (fun k_ => (w.heap.size ≤ k_) ∧ some k_ ≠ (.slice Ao36 y772.length co36 : Value).ownBlock) v779 y778) := ⟨h1_⟩
      have n2_ : Aside0 (Kd.V (Kd.slice 2 (Kd.int .i64)) 35 w42 w.heap.size (fun k_ => ((P0_4_ k_ ∨ P1_4_ k_) ∨ w.heap.size ≤ k_) ∧ some k_ ≠ (.slice Ao36 y772.length co36 : Value).ownBlock ∧ some k_ ≠ (v779 : Value).ownBlock ∧ k_ ≠ gb767 ∧ k_ ≠ gb768 ∧ k_ ≠ gb769 ∧ k_ ≠ gb781) (.slice A0_4 l0_4.length c0_4) l0_4) := ⟨h2_⟩
      have n3_ : Aside0 (Kd.V (Kd.slice 2 (Kd.int .i64)) 35 w42 w.heap.size (fun k_ => ((P0_4_ k_ ∨ P1_4_ k_) ∨ w.heap.size ≤ k_) ∧ some k_ ≠ (.slice Ao36 y772.length co36 : Value).ownBlock ∧ some k_ ≠ (v779 : Value).ownBlock ∧ k_ ≠ gb767 ∧ k_ ≠ gb768 ∧ k_ ≠ gb769 ∧ k_ ≠ gb781) (.slice A1_4 l1_4.length c1_4) l1_4) := ⟨h3_⟩
      have n4_ : Aside0 (w42.heap[gb767]? = some (.cells #[.int .i64 a0_0, .slice A0_1 l0_1.length c0_1, .int .i64 a0_2, .int .i64 a0_3, .slice A0_4 l0_4.length c0_4] 53 (0, 0))) := ⟨h4_⟩
      have n5_ : Aside0 (w42.heap[gb768]? = some (.cells #[.int .i64 a1_0, .slice A1_1 l1_1.length c1_1, .int .i64 a1_2, .int .i64 a1_3, .slice A1_4 l1_4.length c1_4] 53 (0, 0))) := ⟨h5_⟩
      have n6_ : Aside0 (w42.heap[gb769]? = some (.cells #[.int .i64 0, .slice none 0 0, .int .i64 0, .int .i64 0, .slice none 0 0] 53 (0, 0))) := ⟨h6_⟩
      have n7_ : Aside0 (w42.heap[gb781]? = some (.cells #[.int .i64 0, .slice none 0 0, .int .i64 0, .int .i64 0, .slice none 0 0] 53 (0, 0))) := ⟨h7_⟩
      have n8_ : Aside0 (w.heap.size ≤ gb781) := ⟨h8_⟩
      have n9_ : Aside0 (w.heap.size ≤ gb781) := ⟨h9_⟩
      have n10_ : Aside0 (gb767 ≠ gb781) := ⟨h10_⟩
      have n11_ : Aside0 (gb781 ≠ gb767) := ⟨h11_⟩
      have n12_ : Aside0 (gb768 ≠ gb781) := ⟨h12_⟩
      have n13_ : Aside0 (gb781 ≠ gb768) := ⟨h13_⟩
      have n14_ : Aside0 (gb769 ≠ gb781) := ⟨h14_⟩
      have n15_ : Aside0 (gb781 ≠ gb769) := ⟨h15_⟩
      have n16_ : Aside0 (Below w.heap.size w w42) := ⟨h16_⟩
      clear O8 O9 HO774 BK767 BK768 BK769 HB h0_ h1_ h2_ h3_ h4_ h5_ h6_ h7_ h8_ h9_ h10_ h11_ h12_ h13_ h14_ h15_ h16_
      have HO774 := n0_
      have HO780 := n1_
      have O8 := n2_
      have O9 := n3_
      have BK767 := n4_
      have BK768 := n5_
      have BK769 := n6_
      have BK781 := n7_
      have GW781 := n8_
      have GE781 := n9_
      have NB767_781 := n10_
      have NB781_767 := n11_
      have NB768_781 := n12_
      have NB781_768 := n13_
      have NB769_781 := n14_
      have NB781_769 := n15_
      have HB := n16_
      clear n0_ n1_ n2_ n3_ n4_ n5_ n6_ n7_ n8_ n9_ n10_ n11_ n12_ n13_ n14_ n15_ n16_
      have hHeld : w42.cell? ⟨gb767, 0, none⟩ = some (.int .i64 a0_0) ∧ w42.cell? ⟨gb767, 1, none⟩ = some (.slice A0_1 l0_1.length c0_1) ∧ w42.cell? ⟨gb767, 2, none⟩ = some (.int .i64 a0_2) ∧ w42.cell? ⟨gb767, 3, none⟩ = some (.int .i64 a0_3) ∧ w42.cell? ⟨gb767, 4, none⟩ = some (.slice A0_4 l0_4.length c0_4) ∧ w42.cell? ⟨gb768, 0, none⟩ = some (.int .i64 a1_0) ∧ w42.cell? ⟨gb768, 1, none⟩ = some (.slice A1_1 l1_1.length c1_1) ∧ w42.cell? ⟨gb768, 2, none⟩ = some (.int .i64 a1_2) ∧ w42.cell? ⟨gb768, 3, none⟩ = some (.int .i64 a1_3) ∧ w42.cell? ⟨gb768, 4, none⟩ = some (.slice A1_4 l1_4.length c1_4) := hS_
      obtain ⟨Ao43, co43, eo43⟩ := Kd.R_slice HO780.out
      subst eo43
      refine norm_ (a' := ?_) ?_ ?_
      rotate_left
      ·simp only [putAll, Act.put, List.setIfInBounds_toArray, List.set_cons_zero, List.set_cons_succ]
       rfl
      refine one_ (i := 10) (N := none) #[Y,Y,Y,Y,Y,Y,Y,Y,Y,Y,Y] rfl rfl (one_of HT_.out (by kernel_rfl)) (by decide) (fun K hK => ?_)
      have hs44 : w42.cell? ⟨gb781, 0, none⟩ = some (.int .i64 0) := (blk_cell BK781.out 0).trans rfl
      have hfs44 := blk_frozen BK781.out 0
      have hns44_0 := NB767_781.out
      have hns44_1 := NB768_781.out
      have hns44_2 := NB769_781.out
      have hms44_0 := NB781_767.out
      have hms44_1 := NB781_768.out
      have hms44_2 := NB781_769.out
      have hs45 : w42.cell? ⟨gb781, 1, none⟩ = some (.slice none 0 0) := (blk_cell BK781.out 1).trans rfl
      have hfs45 := blk_frozen BK781.out 1
      have hns45_0 := NB767_781.out
      have hns45_1 := NB768_781.out
      have hns45_2 := NB769_781.out
      have hms45_0 := NB781_767.out
      have hms45_1 := NB781_768.out
      have hms45_2 := NB781_769.out
      have hs46 : w42.cell? ⟨gb781, 2, none⟩ = some (.int .i64 0) := (blk_cell BK781.out 2).trans rfl
      have hfs46 := blk_frozen BK781.out 2
      have hns46_0 := NB767_781.out
      have hns46_1 := NB768_781.out
      have hns46_2 := NB769_781.out
      have hms46_0 := NB781_767.out
      have hms46_1 := NB781_768.out
      have hms46_2 := NB781_769.out
      have hs47 : w42.cell? ⟨gb781, 3, none⟩ = some (.int .i64 0) := (blk_cell BK781.out 3).trans rfl
      have hfs47 := blk_frozen BK781.out 3
      have hns47_0 := NB767_781.out
      have hns47_1 := NB768_781.out
      have hns47_2 := NB769_781.out
      have hms47_0 := NB781_767.out
      have hms47_1 := NB781_768.out
      have hms47_2 := NB781_769.out
      have hs48 : w42.cell? ⟨gb781, 4, none⟩ = some (.slice none 0 0) := (blk_cell BK781.out 4).trans rfl
      have hfs48 := blk_frozen BK781.out 4
      have hns48_0 := NB767_781.out
      have hns48_1 := NB768_781.out
      have hns48_2 := NB769_781.out
      have hms48_0 := NB781_767.out
      have hms48_1 := NB781_768.out
      have hms48_2 := NB781_769.out
      refine skip_ (w1 := ?_) (by rfl) rfl ?_ ?_
      rotate_left
      ·go_simp
       rfl
      refine hK.out _ _ ⟨((cell_far (p := ⟨gb781, _, none⟩) NB767_781.out _).trans (((cell_far (p := ⟨gb781, _, none⟩) NB767_781.out _).trans (((cell_far (p := ⟨gb781, _, none⟩) NB767_781.out _).trans (((cell_far (p := ⟨gb781, _, none⟩) NB767_781.out _).trans (((cell_far (p := ⟨gb781, _, none⟩) NB767_781.out _).trans (hHeld.1)))))))))), ((cell_far (p := ⟨gb781, _, none⟩) NB767_781.out _).trans (((cell_far (p := ⟨gb781, _, none⟩) NB767_781.out _).trans (((cell_far (p := ⟨gb781, _, none⟩) NB767_781.out _).trans (((cell_far (p := ⟨gb781, _, none⟩) NB767_781.out _).trans (((cell_far (p := ⟨gb781, _, none⟩) NB767_781.out _).trans (hHeld.2.1)))))))))), ((cell_far (p := ⟨gb781, _, none⟩) NB767_781.out _).trans (((cell_far (p := ⟨gb781, _, none⟩) NB767_781.out _).trans (((cell_far (p := ⟨gb781, _, none⟩) NB767_781.out _).trans (((cell_far (p := ⟨gb781, _, none⟩) NB767_781.out _).trans (((cell_far (p := ⟨gb781, _, none⟩) NB767_781.out _).trans (hHeld.2.2.1)))))))))), ((cell_far (p := ⟨gb781, _, none⟩) NB767_781.out _).trans (((cell_far (p := ⟨gb781, _, none⟩) NB767_781.out _).trans (((cell_far (p := ⟨gb781, _, none⟩) NB767_781.out _).trans (((cell_far (p := ⟨gb781, _, none⟩) NB767_781.out _).trans (((cell_far (p := ⟨gb781, _, none⟩) NB767_781.out _).trans (hHeld.2.2.2.1)))))))))), ((cell_far (p := ⟨gb781, _, none⟩) NB767_781.out _).trans (((cell_far (p := ⟨gb781, _, none⟩) NB767_781.out _).trans (((cell_far (p := ⟨gb781, _, none⟩) NB767_781.out _).trans (((cell_far (p := ⟨gb781, _, none⟩) NB767_781.out _).trans (((cell_far (p := ⟨gb781, _, none⟩) NB767_781.out _).trans (hHeld.2.2.2.2.1)))))))))), ((cell_far (p := ⟨gb781, _, none⟩) NB768_781.out _).trans (((cell_far (p := ⟨gb781, _, none⟩) NB768_781.out _).trans (((cell_far (p := ⟨gb781, _, none⟩) NB768_781.out _).trans (((cell_far (p := ⟨gb781, _, none⟩) NB768_781.out _).trans (((cell_far (p := ⟨gb781, _, none⟩) NB768_781.out _).trans (hHeld.2.2.2.2.2.1)))))))))), ((cell_far (p := ⟨gb781, _, none⟩) NB768_781.out _).trans (((cell_far (p := ⟨gb781, _, none⟩) NB768_781.out _).trans (((cell_far (p := ⟨gb781, _, none⟩) NB768_781.out _).trans (((cell_far (p := ⟨gb781, _, none⟩) NB768_781.out _).trans (((cell_far (p := ⟨gb781, _, none⟩) NB768_781.out _).trans (hHeld.2.2.2.2.2.2.1)))))))))), ((cell_far (p := ⟨gb781, _, none⟩) NB768_781.out _).trans (((cell_far (p := ⟨gb781, _, none⟩) NB768_781.out _).trans (((cell_far (p := ⟨gb781, _, none⟩) NB768_781.out _).trans (((cell_far (p := ⟨gb781, _, none⟩) NB768_781.out _).trans (((cell_far (p := ⟨gb781, _, none⟩) NB768_781.out _).trans (hHeld.2.2.2.2.2.2.2.1)))))))))), ((cell_far (p := ⟨gb781, _, none⟩) NB768_781.out _).trans (((cell_far (p := ⟨gb781, _, none⟩) NB768_781.out _).trans (((cell_far (p := ⟨gb781, _, none⟩) NB768_781.out _).trans (((cell_far (p := ⟨gb781, _, none⟩) NB768_781.out _).trans (((cell_far (p := ⟨gb781, _, none⟩) NB768_781.out _).trans (hHeld.2.2.2.2.2.2.2.2.1)))))))))), ((cell_far (p := ⟨gb781, _, none⟩) NB768_781.out _).trans (((cell_far (p := ⟨gb781, _, none⟩) NB768_781.out _).trans (((cell_far (p := ⟨gb781, _, none⟩) NB768_781.out _).trans (((cell_far (p := ⟨gb781, _, none⟩) NB768_781.out _).trans (((cell_far (p := ⟨gb781, _, none⟩) NB768_781.out _).trans (hHeld.2.2.2.2.2.2.2.2.2))))))))))⟩ (fun hHeld => ?_)
      clear hK K
      refine done_ (done_of HT_.out (by kernel_rfl)) ?_
      have hnb49 := NB767_781.out
      have hnc49 := NB781_767.out
      obtain ⟨hcz50_0, hcz50_1, hcz50_2, hcz50_3, hcz50_4, hfz50_0, hfz50_1, hfz50_2, hfz50_3, hfz50_4⟩ := box5 BK767.out
      have hnb51 := NB768_781.out
      have hnc51 := NB781_768.out
      obtain ⟨hcz52_0, hcz52_1, hcz52_2, hcz52_3, hcz52_4, hfz52_0, hfz52_1, hfz52_2, hfz52_3, hfz52_4⟩ := box5 BK768.out
      have hnb53 := NB781_769.out
      have hnc53 := NB769_781.out
      obtain ⟨hcz54_0, hcz54_1, hcz54_2, hcz54_3, hcz54_4, hfz54_0, hfz54_1, hfz54_2, hfz54_3, hfz54_4⟩ := box5 BK781.out
      try go_wp2
      go_loopg [74] kj2 (fun kq v74 w' => ∃ (x74_2 : Int) (x782004_2 : List (List Int)) (u782004 : Value), v74 = .int .i64 x74_2 ∧ Aside0 (impl_joined.l0 kq l0_4 (l0_4.length : Int) x74_2 a0_0 l0_1 a0_2 a0_3 l0_4 a1_0 l1_1 a1_2 a1_3 l1_4 a0_0 y778 a0_2 (wrap64 ((wrap64 ((wrap64 ((wrap64 ((y772.length : Int) + a0_3)) - 1)) + a1_3)) - 1)) x782004_2 = some (r1, r2, r3, r4, r5, r6)) ∧ Aside0 (kq ≤ kj2) ∧ Aside0 (Kd.V (Kd.slice 2 (Kd.int .i64)) 35 w' w.heap.size (fun k_ => ((P0_4_ k_ ∨ P1_4_ k_) ∨ w.heap.size ≤ k_) ∧ some k_ ≠ ((.slice Ao43 y778.length co43) : Value).ownBlock ∧ some k_ ≠ (u782004 : Value).ownBlock ∧ k_ ≠ gb767 ∧ k_ ≠ gb768 ∧ k_ ≠ gb769 ∧ k_ ≠ gb781) (.slice A0_4 l0_4.length c0_4) l0_4) ∧ Aside0 (Kd.V (Kd.slice 2 (Kd.int .i64)) 35 w' w.heap.size (fun k_ => ((P0_4_ k_ ∨ P1_4_ k_) ∨ w.heap.size ≤ k_) ∧ some k_ ≠ ((.slice Ao43 y778.length co43) : Value).ownBlock ∧ some k_ ≠ (u782004 : Value).ownBlock ∧ k_ ≠ gb767 ∧ k_ ≠ gb768 ∧ k_ ≠ gb769 ∧ k_ ≠ gb781) (.slice A0_4 l0_4.length c0_4) l0_4) ∧ Aside0 (Kd.V (Kd.slice 2 (Kd.int .i64)) 35 w' w.heap.size (fun k_ => ((P0_4_ k_ ∨ P1_4_ k_) ∨ w.heap.size ≤ k_) ∧ some k_ ≠ ((.slice Ao43 y778.length co43) : Value).ownBlock ∧ some k_ ≠ (u782004 : Value).ownBlock ∧ k_ ≠ gb767 ∧ k_ ≠ gb768 ∧ k_ ≠ gb769 ∧ k_ ≠ gb781) (.slice A1_4 l1_4.length c1_4) l1_4) ∧ Aside0 (Kd.R (Kd.int .i64) 2 w' w.heap.size (fun k_ => (w.heap.size ≤ k_)) (.slice Ao43 y778.length co43) y778) ∧ Aside0 (Kd.S (Kd.slice 2 (Kd.int .i64)) 35 w' w.heap.size (fun k_ => ((P0_4_ k_ ∨ P1_4_ k_) ∨ w.heap.size ≤ k_) ∧ some k_ ≠ ((.slice Ao43 y778.length co43) : Value).ownBlock ∧ k_ ≠ gb767 ∧ k_ ≠ gb768 ∧ k_ ≠ gb769 ∧ k_ ≠ gb781) u782004 x782004_2) ∧ Aside0 (w'.heap[gb767]? = some (.cells #[.int .i64 a0_0, (.slice A0_1 l0_1.length c0_1), .int .i64 a0_2, .int .i64 a0_3, (.slice A0_4 l0_4.length c0_4)] 53 (0, 0))) ∧ Aside0 (w'.heap[gb768]? = some (.cells #[.int .i64 a1_0, (.slice A1_1 l1_1.length c1_1), .int .i64 a1_2, .int .i64 a1_3, (.slice A1_4 l1_4.length c1_4)] 53 (0, 0))) ∧ Aside0 (w'.heap[gb769]? = some (.cells #[.int .i64 0, (.slice none 0 0), .int .i64 0, .int .i64 0, (.slice none 0 0)] 53 (0, 0))) ∧ Aside0 (w'.heap[gb781]? = some (.cells #[.int .i64 a0_0, (.slice Ao43 y778.length co43), .int .i64 a0_2, .int .i64 (wrap64 ((wrap64 ((wrap64 ((wrap64 ((y772.length : Int) + a0_3)) - 1)) + a1_3)) - 1)), u782004] 53 (0, 0))) ∧ Aside0 (Below w.heap.size w w'))
      case atStart => exact ⟨(0), (([] : List (List Int))), (.slice none 0 0), rfl, H', ⟨Nat.le_refl _⟩, ⟨by (with_reducible repeat (first | apply Kd.V_alloc | apply Kd.V_drewN | apply Kd.V_drew)); exact Kd.V_mono (Kd.V_far (p := ⟨gb781, 4, none⟩) (Kd.V_far (p := ⟨gb781, 3, none⟩) (Kd.V_far (p := ⟨gb781, 2, none⟩) (Kd.V_far (p := ⟨gb781, 4, none⟩) (Kd.V_far (p := ⟨gb781, 3, none⟩) (Kd.V_far (p := ⟨gb781, 2, none⟩) (Kd.V_far (p := ⟨gb781, 1, none⟩) (Kd.V_far (p := ⟨gb781, 0, none⟩) (Kd.V_mono O8.out (fun k_ hk => (⟨hk, hk.2.2.2.2.2.2⟩ : _ ∧ k_ ≠ gb781))) (fun _ hk => hk.2) (.int .i64 a0_0)) (fun _ hk => hk.2) (.slice Ao43 y778.length co43)) (fun _ hk => hk.2) (.int .i64 0)) (fun _ hk => hk.2) (.int .i64 0)) (fun _ hk => hk.2) (.slice none 0 0)) (fun _ hk => hk.2) (.int .i64 a0_2)) (fun _ hk => hk.2) (.int .i64 (wrap64 ((wrap64 ((wrap64 ((wrap64 ((y772.length : Int) + a0_3)) - 1)) + a1_3)) - 1)))) (fun _ hk => hk.2) (.slice none 0 0)) (fun _ hk => ⟨hk.1.1, ⟨hk.1.2.2.1, ⟨(by simp [Value.ownBlock]), ⟨hk.1.2.2.2.1, ⟨hk.1.2.2.2.2.1, ⟨hk.1.2.2.2.2.2.1, hk.1.2.2.2.2.2.2⟩⟩⟩⟩⟩⟩)⟩, ⟨by (with_reducible repeat (first | apply Kd.V_alloc | apply Kd.V_drewN | apply Kd.V_drew)); exact Kd.V_mono (Kd.V_far (p := ⟨gb781, 4, none⟩) (Kd.V_far (p := ⟨gb781, 3, none⟩) (Kd.V_far (p := ⟨gb781, 2, none⟩) (Kd.V_far (p := ⟨gb781, 4, none⟩) (Kd.V_far (p := ⟨gb781, 3, none⟩) (Kd.V_far (p := ⟨gb781, 2, none⟩) (Kd.V_far (p := ⟨gb781, 1, none⟩) (Kd.V_far (p := ⟨gb781, 0, none⟩) (Kd.V_mono O8.out (fun k_ hk => (⟨hk, hk.2.2.2.2.2.2⟩ : _ ∧ k_ ≠ gb781))) (fun _ hk => hk.2) (.int .i64 a0_0)) (fun _ hk => hk.2) (.slice Ao43 y778.length co43)) (fun _ hk => hk.2) (.int .i64 0)) (fun _ hk => hk.2) (.int .i64 0)) (fun _ hk => hk.2) (.slice none 0 0)) (fun _ hk => hk.2) (.int .i64 a0_2)) (fun _ hk => hk.2) (.int .i64 (wrap64 ((wrap64 ((wrap64 ((wrap64 ((y772.length : Int) + a0_3)) - 1)) + a1_3)) - 1)))) (fun _ hk => hk.2) (.slice none 0 0)) (fun _ hk => ⟨hk.1.1, ⟨hk.1.2.2.1, ⟨(by simp [Value.ownBlock]), ⟨hk.1.2.2.2.1, ⟨hk.1.2.2.2.2.1, ⟨hk.1.2.2.2.2.2.1, hk.1.2.2.2.2.2.2⟩⟩⟩⟩⟩⟩)⟩, ⟨by (with_reducible repeat (first | apply Kd.V_alloc | apply Kd.V_drewN | apply Kd.V_drew)); exact Kd.V_mono (Kd.V_far (p := ⟨gb781, 4, none⟩) (Kd.V_far (p := ⟨gb781, 3, none⟩) (Kd.V_far (p := ⟨gb781, 2, none⟩) (Kd.V_far (p := ⟨gb781, 4, none⟩) (Kd.V_far (p := ⟨gb781, 3, none⟩) (Kd.V_far (p := ⟨gb781, 2, none⟩) (Kd.V_far (p := ⟨gb781, 1, none⟩) (Kd.V_far (p := ⟨gb781, 0, none⟩) (Kd.V_mono O9.out (fun k_ hk => (⟨hk, hk.2.2.2.2.2.2⟩ : _ ∧ k_ ≠ gb781))) (fun _ hk => hk.2) (.int .i64 a0_0)) (fun _ hk => hk.2) (.slice Ao43 y778.length co43)) (fun _ hk => hk.2) (.int .i64 0)) (fun _ hk => hk.2) (.int .i64 0)) (fun _ hk => hk.2) (.slice none 0 0)) (fun _ hk => hk.2) (.int .i64 a0_2)) (fun _ hk => hk.2) (.int .i64 (wrap64 ((wrap64 ((wrap64 ((wrap64 ((y772.length : Int) + a0_3)) - 1)) + a1_3)) - 1)))) (fun _ hk => hk.2) (.slice none 0 0)) (fun _ hk => ⟨hk.1.1, ⟨hk.1.2.2.1, ⟨(by simp [Value.ownBlock]), ⟨hk.1.2.2.2.1, ⟨hk.1.2.2.2.2.1, ⟨hk.1.2.2.2.2.2.1, hk.1.2.2.2.2.2.2⟩⟩⟩⟩⟩⟩)⟩, ⟨by (with_reducible repeat (first | apply Kd.R_alloc | apply Kd.R_drewN | apply Kd.R_drew)); exact Kd.R_mono (Kd.R_far (p := ⟨gb781, 4, none⟩) (Kd.R_far (p := ⟨gb781, 3, none⟩) (Kd.R_far (p := ⟨gb781, 2, none⟩) (Kd.R_far (p := ⟨gb781, 4, none⟩) (Kd.R_far (p := ⟨gb781, 3, none⟩) (Kd.R_far (p := ⟨gb781, 2, none⟩) (Kd.R_far (p := ⟨gb781, 1, none⟩) (Kd.R_far (p := ⟨gb781, 0, none⟩) (Kd.R_types HO780.out BK781.out (by decide)) (fun _ hk => hk.2) (.int .i64 a0_0)) (fun _ hk => hk.2) (.slice Ao43 y778.length co43)) (fun _ hk => hk.2) (.int .i64 0)) (fun _ hk => hk.2) (.int .i64 0)) (fun _ hk => hk.2) (.slice none 0 0)) (fun _ hk => hk.2) (.int .i64 a0_2)) (fun _ hk => hk.2) (.int .i64 (wrap64 ((wrap64 ((wrap64 ((wrap64 ((y772.length : Int) + a0_3)) - 1)) + a1_3)) - 1)))) (fun _ hk => hk.2) (.slice none 0 0)) (fun _ hk => hk.1.1)⟩, ⟨by first | exact Kd.S_nil _ _ _ _ _ | exact Kd.S_nil _ _ _ _ _ | exact Kd.V_nil _ _ _ _ _ | exact Kd.Q_nil _ _ _ _ _ | exact Kd.R_nil _ _ _ _ _⟩, ⟨by (with_reducible repeat (first | refine blk_drewN ?_ _ | refine blk_drew ?_ | refine blk_alloc ?_ _)); refine blk_far ?_ NB767_781.out _; (with_reducible repeat (first | refine blk_drewN ?_ _ | refine blk_drew ?_ | refine blk_alloc ?_ _)); refine blk_far ?_ NB767_781.out _; (with_reducible repeat (first | refine blk_drewN ?_ _ | refine blk_drew ?_ | refine blk_alloc ?_ _)); refine blk_far ?_ NB767_781.out _; (with_reducible repeat (first | refine blk_drewN ?_ _ | refine blk_drew ?_ | refine blk_alloc ?_ _)); refine blk_far ?_ NB767_781.out _; (with_reducible repeat (first | refine blk_drewN ?_ _ | refine blk_drew ?_ | refine blk_alloc ?_ _)); refine blk_far ?_ NB767_781.out _; (with_reducible repeat (first | refine blk_drewN ?_ _ | refine blk_drew ?_ | refine blk_alloc ?_ _)); refine blk_far ?_ NB767_781.out _; (with_reducible repeat (first | refine blk_drewN ?_ _ | refine blk_drew ?_ | refine blk_alloc ?_ _)); refine blk_far ?_ NB767_781.out _; (with_reducible repeat (first | refine blk_drewN ?_ _ | refine blk_drew ?_ | refine blk_alloc ?_ _)); refine blk_far ?_ NB767_781.out _; (with_reducible repeat (first | refine blk_drewN ?_ _ | refine blk_drew ?_ | refine blk_alloc ?_ _)); exact BK767.out⟩, ⟨by (with_reducible repeat (first | refine blk_drewN ?_ _ | refine blk_drew ?_ | refine blk_alloc ?_ _)); refine blk_far ?_ NB768_781.out _; (with_reducible repeat (first | refine blk_drewN ?_ _ | refine blk_drew ?_ | refine blk_alloc ?_ _)); refine blk_far ?_ NB768_781.out _; (with_reducible repeat (first | refine blk_drewN ?_ _ | refine blk_drew ?_ | refine blk_alloc ?_ _)); refine blk_far ?_ NB768_781.out _; (with_reducible repeat (first | refine blk_drewN ?_ _ | refine blk_drew ?_ | refine blk_alloc ?_ _)); refine blk_far ?_ NB768_781.out _; (with_reducible repeat (first | refine blk_drewN ?_ _ | refine blk_drew ?_ | refine blk_alloc ?_ _)); refine blk_far ?_ NB768_781.out _; (with_reducible repeat (first | refine blk_drewN ?_ _ | refine blk_drew ?_ | refine blk_alloc ?_ _)); refine blk_far ?_ NB768_781.out _; (with_reducible repeat (first | refine blk_drewN ?_ _ | refine blk_drew ?_ | refine blk_alloc ?_ _)); refine blk_far ?_ NB768_781.out _; (with_reducible repeat (first | refine blk_drewN ?_ _ | refine blk_drew ?_ | refine blk_alloc ?_ _)); refine blk_far ?_ NB768_781.out _; (with_reducible repeat (first | refine blk_drewN ?_ _ | refine blk_drew ?_ | refine blk_alloc ?_ _)); exact BK768.out⟩, ⟨by (with_reducible repeat (first | refine blk_drewN ?_ _ | refine blk_drew ?_ | refine blk_alloc ?_ _)); refine blk_far ?_ NB769_781.out _; (with_reducible repeat (first | refine blk_drewN ?_ _ | refine blk_drew ?_ | refine blk_alloc ?_ _)); refine blk_far ?_ NB769_781.out _; (with_reducible repeat (first | refine blk_drewN ?_ _ | refine blk_drew ?_ | refine blk_alloc ?_ _)); refine blk_far ?_ NB769_781.out _; (with_reducible repeat (first | refine blk_drewN ?_ _ | refine blk_drew ?_ | refine blk_alloc ?_ _)); refine blk_far ?_ NB769_781.out _; (with_reducible repeat (first | refine blk_drewN ?_ _ | refine blk_drew ?_ | refine blk_alloc ?_ _)); refine blk_far ?_ NB769_781.out _; (with_reducible repeat (first | refine blk_drewN ?_ _ | refine blk_drew ?_ | refine blk_alloc ?_ _)); refine blk_far ?_ NB769_781.out _; (with_reducible repeat (first | refine blk_drewN ?_ _ | refine blk_drew ?_ | refine blk_alloc ?_ _)); refine blk_far ?_ NB769_781.out _; (with_reducible repeat (first | refine blk_drewN ?_ _ | refine blk_drew ?_ | refine blk_alloc ?_ _)); refine blk_far ?_ NB769_781.out _; (with_reducible repeat (first | refine blk_drewN ?_ _ | refine blk_drew ?_ | refine blk_alloc ?_ _)); exact BK769.out⟩, ⟨by (with_reducible repeat (first | refine blk_drewN ?_ _ | refine blk_drew ?_ | refine blk_alloc ?_ _)); refine blk_put (cs := #[.int .i64 a0_0, .slice Ao43 y778.length co43, .int .i64 a0_2, .int .i64 (wrap64 ((wrap64 ((wrap64 ((wrap64 ((y772.length : Int) + a0_3)) - 1)) + a1_3)) - 1)), .slice none 0 0]) ?_ 4 _ rfl; (with_reducible repeat (first | refine blk_drewN ?_ _ | refine blk_drew ?_ | refine blk_alloc ?_ _)); refine blk_put (cs := #[.int .i64 a0_0, .slice Ao43 y778.length co43, .int .i64 a0_2, .int .i64 0, .slice none 0 0]) ?_ 3 _ rfl; (with_reducible repeat (first | refine blk_drewN ?_ _ | refine blk_drew ?_ | refine blk_alloc ?_ _)); refine blk_put (cs := #[.int .i64 a0_0, .slice Ao43 y778.length co43, .int .i64 0, .int .i64 0, .slice none 0 0]) ?_ 2 _ rfl; (with_reducible repeat (first | refine blk_drewN ?_ _ | refine blk_drew ?_ | refine blk_alloc ?_ _)); refine blk_put (cs := #[.int .i64 a0_0, .slice Ao43 y778.length co43, .int .i64 0, .int .i64 0, .slice none 0 0]) ?_ 4 _ rfl; (with_reducible repeat (first | refine blk_drewN ?_ _ | refine blk_drew ?_ | refine blk_alloc ?_ _)); refine blk_put (cs := #[.int .i64 a0_0, .slice Ao43 y778.length co43, .int .i64 0, .int .i64 0, .slice none 0 0]) ?_ 3 _ rfl; (with_reducible repeat (first | refine blk_drewN ?_ _ | refine blk_drew ?_ | refine blk_alloc ?_ _)); refine blk_put (cs := #[.int .i64 a0_0, .slice Ao43 y778.length co43, .int .i64 0, .int .i64 0, .slice none 0 0]) ?_ 2 _ rfl; (with_reducible repeat (first | refine blk_drewN ?_ _ | refine blk_drew ?_ | refine blk_alloc ?_ _)); refine blk_put (cs := #[.int .i64 a0_0, .slice none 0 0, .int .i64 0, .int .i64 0, .slice none 0 0]) ?_ 1 _ rfl; (with_reducible repeat (first | refine blk_drewN ?_ _ | refine blk_drew ?_ | refine blk_alloc ?_ _)); refine blk_put (cs := #[.int .i64 0, .slice none 0 0, .int .i64 0, .int .i64 0, .slice none 0 0]) ?_ 0 _ rfl; (with_reducible repeat (first | refine blk_drewN ?_ _ | refine blk_drew ?_ | refine blk_alloc ?_ _)); exact BK781.out⟩, ⟨by repeat (first | (with_reducible first | exact HB.out | apply below_alloc | apply pw_below_drewN | apply below_drew1 | refine below_set ?_ GE767.out | refine below_set ?_ GE768.out | refine below_set ?_ GE769.out | refine below_set ?_ GE781.out) | exact HB.out)⟩⟩
      case round =>
       clear H'
       try clear c1
       try clear c2
       try clear p2
       try clear c4
       try clear c5
       try clear c6
       try clear p6
       try clear c28
       try clear c49
       try clear c51
       try clear c53
       try clear hcz50_0
       try clear hcz50_1
       try clear hcz50_2
       try clear hcz50_3
       try clear hcz50_4
       try clear hcz52_0
       try clear hcz52_1
       try clear hcz52_2
       try clear hcz52_3
       try clear hcz52_4
       try clear hcz54_0
       try clear hcz54_1
       try clear hcz54_2
       try clear hcz54_3
       try clear hcz54_4
       try clear hfz50_0
       try clear hfz50_1
       try clear hfz50_2
       try clear hfz50_3
       try clear hfz50_4
       try clear hfz52_0
       try clear hfz52_1
       try clear hfz52_2
       try clear hfz52_3
       try clear hfz52_4
       try clear hfz54_0
       try clear hfz54_1
       try clear hfz54_2
       try clear hfz54_3
       try clear hfz54_4
       obtain ⟨x74_2, x782004_2, u782004, rfl, HA, HK2, HO_72, O8, O9, Oy, Oz, BK767, BK768, BK769, BK781, HB⟩ := hrel
       cases gk with
       | zero => exact absurd HA.out (by simp [impl_joined.l0])
       | succ k2 =>
        have H := HA.out
        clear HA
        simp only [impl_joined.l0] at H
        by_cases c55 : x74_2 < (l0_4.length : Int)
        ·rw [if_pos c55] at H
         have c55b0 : decide (x74_2 < (l0_4.length : Int)) = true := decide_eq_true c55
         clear c55
         by_cases c56 : 0 ≤ x74_2
         case neg => rw [if_neg c56] at H; exact absurd H (by simp)
         rw [if_pos c56] at H
         have c56b0 : decide (0 ≤ x74_2) = true := decide_eq_true c56
         clear c56
         by_cases c57 : x74_2 < (l0_4.length : Int)
         case neg => rw [if_neg c57] at H; exact absurd H (by simp)
         rw [if_pos c57] at H
         have c57b0 : decide (x74_2 < (l0_4.length : Int)) = true := decide_eq_true c57
         clear c57
         by_cases c58 : 0 < ((rd_L1 l0_4 x74_2).length : Int)
         case neg => rw [if_neg c58] at H; exact absurd H (by simp)
         rw [if_pos c58] at H
         have c58b0 : decide (0 < ((rd_L1 l0_4 x74_2).length : Int)) = true := decide_eq_true c58
         have c58b1 : decide (0 < (rd_L1 l0_4 x74_2).length) = true := decide_eq_true (by omega)
         clear c58
         obtain ⟨y784, hy784⟩ : ∃ y_ : List Int, y_ = (([rd (rd_L1 l0_4 x74_2) 0] : List Int)) := ⟨_, rfl⟩
         replace H : (if 1 ≤ ((rd_L1 l0_4 x74_2).length : Int) then (if 0 ≤ (wrap64 (a1_3 - 1)) then (if (wrap64 (a1_3 - 1) : Int).toNat ≤ 35184372088832 then ((slices_Concat_int64_int64.f k2 (([y784, ((rd_L1 l0_4 x74_2).drop 1), (List.replicate (wrap64 (a1_3 - 1) : Int).toNat 0)] : List (List Int)))).bind fun t798 => (if x782004_2.length < 5864062014805 then (impl_joined.l0 k2 l0_4 (l0_4.length : Int) (wrap64 (x74_2 + 1)) a0_0 l0_1 a0_2 a0_3 l0_4 a1_0 l1_1 a1_2 a1_3 l1_4 a0_0 y778 a0_2 (wrap64 ((wrap64 ((wrap64 ((wrap64 ((y772.length : Int) + a0_3)) - 1)) + a1_3)) - 1)) (x782004_2 ++ [t798])) else (none))) else (none)) else (none)) else (none)) = some (r1, r2, r3, r4, r5, r6) := by first | (rw [hy784]; with_reducible exact H) | (have H2_ := (Option.bind_some _ _).symm.trans H; rw [hy784]; with_reducible exact H2_) | (have H2_ := (Option.bind_some _ _).symm.trans H; with_reducible exact H2_) | with_reducible exact H | (rw [hy784]; exact H) | exact H
         have Ny784 := Aside0.mk hy784
         clear hy784
         by_cases c59 : 1 ≤ ((rd_L1 l0_4 x74_2).length : Int)
         case neg => rw [if_neg c59] at H; exact absurd H (by simp)
         rw [if_pos c59] at H
         have c59b0 := eq_true c59
         have c59b1 : decide (1 ≤ ((rd_L1 l0_4 x74_2).length : Int)) = true := decide_eq_true c59
         clear c59
         obtain ⟨y787, hy787⟩ : ∃ y_ : List Int, y_ = ((rd_L1 l0_4 x74_2).drop 1) := ⟨_, rfl⟩
         replace H : (if 0 ≤ (wrap64 (a1_3 - 1)) then (if (wrap64 (a1_3 - 1) : Int).toNat ≤ 35184372088832 then ((slices_Concat_int64_int64.f k2 (([y784, y787, (List.replicate (wrap64 (a1_3 - 1) : Int).toNat 0)] : List (List Int)))).bind fun t798 => (if x782004_2.length < 5864062014805 then (impl_joined.l0 k2 l0_4 (l0_4.length : Int) (wrap64 (x74_2 + 1)) a0_0 l0_1 a0_2 a0_3 l0_4 a1_0 l1_1 a1_2 a1_3 l1_4 a0_0 y778 a0_2 (wrap64 ((wrap64 ((wrap64 ((wrap64 ((y772.length : Int) + a0_3)) - 1)) + a1_3)) - 1)) (x782004_2 ++ [t798])) else (none))) else (none)) else (none)) = some (r1, r2, r3, r4, r5, r6) := by first | (rw [hy787]; with_reducible exact H) | (have H2_ := (Option.bind_some _ _).symm.trans H; rw [hy787]; with_reducible exact H2_) | (have H2_ := (Option.bind_some _ _).symm.trans H; with_reducible exact H2_) | with_reducible exact H | (rw [hy787]; exact H) | exact H
         have Ny787 := Aside0.mk hy787
         clear hy787
         obtain ⟨ji60, hji60⟩ : ∃ j_ : Int, (wrap64 (a1_3 - 1)) = j_ := ⟨_, rfl⟩
         replace H : (if 0 ≤ (ji60) then (if (ji60 : Int).toNat ≤ 35184372088832 then ((slices_Concat_int64_int64.f k2 (([y784, y787, (List.replicate (ji60 : Int).toNat 0)] : List (List Int)))).bind fun t798 => (if x782004_2.length < 5864062014805 then (impl_joined.l0 k2 l0_4 (l0_4.length : Int) (wrap64 (x74_2 + 1)) a0_0 l0_1 a0_2 a0_3 l0_4 a1_0 l1_1 a1_2 a1_3 l1_4 a0_0 y778 a0_2 (wrap64 ((wrap64 ((wrap64 ((wrap64 ((y772.length : Int) + a0_3)) - 1)) + a1_3)) - 1)) (x782004_2 ++ [t798])) else (none))) else (none)) else (none)) = some (r1, r2, r3, r4, r5, r6) := by first | (rw [hji60] at H; exact H) | (simp only [hji60] at H ⊢; exact H)
         have hji60w : (IntKind.i64.wrap (a1_3 - 1)) = ji60 := (i64_w _).trans hji60
         by_cases c61 : 0 ≤ (ji60)
         case neg => rw [if_neg c61] at H; exact absurd H (by simp)
         rw [if_pos c61] at H
         have c61b0 := eq_true c61
         have c61b1 : decide (0 ≤ (ji60)) = true := decide_eq_true c61
         clear c61
         by_cases c62 : (ji60 : Int).toNat ≤ 35184372088832
         case neg => rw [if_neg c62] at H; exact absurd H (by simp)
         rw [if_pos c62] at H
         have c62b0 := eq_true c62
         have c62b1 : decide ((ji60 : Int).toNat ≤ 35184372088832) = true := decide_eq_true c62
         clear c62
         obtain ⟨y792, hy792⟩ : ∃ y_ : List Int, y_ = (List.replicate (ji60 : Int).toNat 0) := ⟨_, rfl⟩
         replace H : ((slices_Concat_int64_int64.f k2 (([y784, y787, y792] : List (List Int)))).bind fun t798 => (if x782004_2.length < 5864062014805 then (impl_joined.l0 k2 l0_4 (l0_4.length : Int) (wrap64 (x74_2 + 1)) a0_0 l0_1 a0_2 a0_3 l0_4 a1_0 l1_1 a1_2 a1_3 l1_4 a0_0 y778 a0_2 (wrap64 ((wrap64 ((wrap64 ((wrap64 ((y772.length : Int) + a0_3)) - 1)) + a1_3)) - 1)) (x782004_2 ++ [t798])) else (none))) = some (r1, r2, r3, r4, r5, r6) := by first | (rw [hy792]; with_reducible exact H) | (have H2_ := (Option.bind_some _ _).symm.trans H; rw [hy792]; with_reducible exact H2_) | (have H2_ := (Option.bind_some _ _).symm.trans H; with_reducible exact H2_) | with_reducible exact H | (rw [hy792]; exact H) | exact H
         have Ny792 := Aside0.mk hy792
         clear hy792
         obtain ⟨y795, hy795⟩ : ∃ y_ : List (List Int), y_ = (([y784, y787, y792] : List (List Int))) := ⟨_, rfl⟩
         replace H : ((slices_Concat_int64_int64.f k2 y795).bind fun t798 => (if x782004_2.length < 5864062014805 then (impl_joined.l0 k2 l0_4 (l0_4.length : Int) (wrap64 (x74_2 + 1)) a0_0 l0_1 a0_2 a0_3 l0_4 a1_0 l1_1 a1_2 a1_3 l1_4 a0_0 y778 a0_2 (wrap64 ((wrap64 ((wrap64 ((wrap64 ((y772.length : Int) + a0_3)) - 1)) + a1_3)) - 1)) (x782004_2 ++ [t798])) else (none))) = some (r1, r2, r3, r4, r5, r6) := by first | (rw [hy795]; with_reducible exact H) | (have H2_ := (Option.bind_some _ _).symm.trans H; rw [hy795]; with_reducible exact H2_) | (have H2_ := (Option.bind_some _ _).symm.trans H; with_reducible exact H2_) | with_reducible exact H | (rw [hy795]; exact H) | exact H
         have Ny795 := Aside0.mk hy795
         clear hy795
         replace H := Option.bind_eq_some_iff.mp H
         obtain ⟨t798, A630, H⟩ := H
         replace H : (if x782004_2.length < 5864062014805 then (impl_joined.l0 k2 l0_4 (l0_4.length : Int) (wrap64 (x74_2 + 1)) a0_0 l0_1 a0_2 a0_3 l0_4 a1_0 l1_1 a1_2 a1_3 l1_4 a0_0 y778 a0_2 (wrap64 ((wrap64 ((wrap64 ((wrap64 ((y772.length : Int) + a0_3)) - 1)) + a1_3)) - 1)) (x782004_2 ++ [t798])) else (none)) = some (r1, r2, r3, r4, r5, r6) := H
         have A63 := Aside0.mk A630
         clear A630
         by_cases c64 : x782004_2.length < 5864062014805
         case neg => rw [if_neg c64] at H; exact absurd H (by simp)
         rw [if_pos c64] at H
         have LMc64 := Aside0.mk c64
         clear c64
         obtain ⟨y801, hy801⟩ : ∃ y_ : List (List Int), y_ = (x782004_2 ++ [t798]) := ⟨_, rfl⟩
         replace H : (impl_joined.l0 k2 l0_4 (l0_4.length : Int) (wrap64 (x74_2 + 1)) a0_0 l0_1 a0_2 a0_3 l0_4 a1_0 l1_1 a1_2 a1_3 l1_4 a0_0 y778 a0_2 (wrap64 ((wrap64 ((wrap64 ((wrap64 ((y772.length : Int) + a0_3)) - 1)) + a1_3)) - 1)) y801) = some (r1, r2, r3, r4, r5, r6) := by first | (rw [hy801]; with_reducible exact H) | (have H2_ := (Option.bind_some _ _).symm.trans H; rw [hy801]; with_reducible exact H2_) | (have H2_ := (Option.bind_some _ _).symm.trans H; with_reducible exact H2_) | with_reducible exact H | (rw [hy801]; exact H) | exact H
         have Ny801 := Aside0.mk hy801
         clear hy801
         have H' := Aside0.mk H
         clear H
         have p782 : 0 ≤ (x74_2 : Int) := of_decide_eq_true (by first | (with_reducible assumption) | assumption)
         have q782 : x74_2 < (l0_4.length : Int) := of_decide_eq_true (by first | (with_reducible assumption) | assumption)
         obtain ⟨ad782, A782_0, c782_0, e782, hx782_0, hl782_0, hi782_0⟩ := at_L1 (Kd.V_reads' HO_72.out).2.2 x74_2 p782 q782
         cases e782
         obtain ⟨ce782, hce782, hMe782, hcc782⟩ := Kd.V_get HO_72.out [] x74_2 p782 (by first | exact q782 | exact of_decide_eq_true (by first | (with_reducible assumption) | assumption) | (have e_ := (Kd.V_reads' HO_72.out).1; omega))
         obtain ⟨ua782_0, uc782_0, rfl, ul782_0, ge782_0⟩ := Kd.FK_slice_open hMe782
         have hv782_0 := hcc782 0 _ rfl
         rw [Nat.add_zero, show ((Kd.slice 2 (Kd.int .i64))).sz = 1 from rfl, Nat.mul_one] at hv782_0
         replace hv782_0 := Option.some.inj (hv782_0.symm.trans hx782_0)
         injection hv782_0 with hva_ hvn_ hvc_
         rw [hva_] at ge782_0
         rw [hvc_] at ul782_0
         have Lz := Aside0.mk (show Kd.V (Kd.int .i64) 2 _ w.heap.size _ _ (rd_L1 l0_4 x74_2) from Kd.V_mk ul782_0 ge782_0)
         clear hva_ hvn_ hvc_ ge782_0 ul782_0 hcc782 hce782
         have HR782_0 := Aside0.mk hi782_0
         have HC782_0 := Aside0.mk hl782_0
         clear hi782_0 hl782_0
         replace p782 := eq_true p782
         replace q782 := eq_true q782
         obtain ⟨Ao65, co65, eo65⟩ := Kd.S_slice Oz.out
         subst eo65
         try go_wp2
         have n0_ := Aside0.mk (Kd.V_drew HO_72.out)
         have n1_ := Aside0.mk (Kd.V_drew O8.out)
         have n2_ := Aside0.mk (Kd.V_drew O9.out)
         have n3_ := Aside0.mk (Kd.R_drew Oy.out)
         have n4_ := Aside0.mk (Kd.S_drew Oz.out)
         have n5_ := Aside0.mk (Kd.V_drew Lz.out)
         have n6_ := Aside0.mk (blk_drew BK767.out)
         have n7_ := Aside0.mk (blk_drew BK768.out)
         have n8_ := Aside0.mk (blk_drew BK769.out)
         have n9_ := Aside0.mk (blk_drew BK781.out)
         have n10_ := Aside0.mk (Kd.C_drew HR782_0.out)
         have n11_ := Aside0.mk (below_drew1 HB.out)
         clear HO_72 O8 O9 Oy Oz Lz BK767 BK768 BK769 BK781 HR782_0 HB
         have HO_72 := n0_
         have O8 := n1_
         have O9 := n2_
         have Oy := n3_
         have Oz := n4_
         have Lz := n5_
         have BK767 := n6_
         have BK768 := n7_
         have BK769 := n8_
         have BK781 := n9_
         have HR782_0 := n10_
         have HB := n11_
         clear n0_ n1_ n2_ n3_ n4_ n5_ n6_ n7_ n8_ n9_ n10_ n11_
         have p783 : 0 ≤ (0 : Int) := (by omega)
         have q783 : 0 < ((rd_L1 l0_4 x74_2).length : Int) := of_decide_eq_true (by first | (with_reducible assumption) | assumption)
         obtain ⟨ad783, e783, hx783_0⟩ := Kd.at_int (by repeat (first | (with_reducible exact HR782_0.out) | (with_reducible refine Kd.C_alloc ?_ _) | (with_reducible refine Kd.C_drewN ?_ _) | (with_reducible refine Kd.C_drew ?_) | exact HR782_0.out)) 0 p783 q783
         cases e783
         have qi783 : (0 < (rd_L1 l0_4 x74_2).length) = True := eq_true (by omega)
         (try rw [show ((0 : Int)).toNat = 0 from rfl] at hx783_0)
         (try rw [Addr.add_zero'] at hx783_0)
         replace p783 := eq_true p783
         replace q783 := eq_true q783
         have q67 : (1 : Int) ≤ (((rd_L1 l0_4 x74_2).length : Int) : Int) := of_decide_eq_true (by first | (with_reducible assumption) | assumption)
         obtain ⟨i067, hi067, _, hsz67, _⟩ := info_parts info2
         have hroom67 : (rd_L1 l0_4 x74_2).length ≤ c782_0 := HC782_0.out
         have hC67 : Kd.F (Kd.int .i64) _ _ (some ad783) (rd_L1 l0_4 x74_2).length (rd_L1 l0_4 x74_2) := (Kd.V_at (base := w.heap.size) Lz.out).2.2
         have hcut67 := cut_from (P := Try.prog) 35 2 .i64 Try.underlying35 hi067 1 hsz67 (some ad783) (rd_L1 l0_4 x74_2).length c782_0 1 (by omega) q67
         have hr67 := Kd.F_cut (m := (1 : Int).toNat) (c := c782_0) hC67 (by omega) hroom67
         obtain ⟨A67, hA67⟩ : ∃ A1, A1 = (if c782_0 = (1 : Int).toNat then (some ad783) else ((some ad783) : Option Addr).map (·.add ((1 : Int).toNat * 1))) := ⟨_, rfl⟩
         obtain ⟨c67, hc67⟩ : ∃ c1, c1 = c782_0 - (1 : Int).toNat := ⟨_, rfl⟩
         have hy67 : y787.length = (rd_L1 l0_4 x74_2).length - (1 : Int).toNat := (by rw [Ny787.out, List.length_drop] <;> omega)
         rw [show (rd_L1 l0_4 x74_2).drop (1 : Int).toNat = y787 from Ny787.out.symm] at hr67
         replace hr67 : Kd.F (Kd.int .i64) _ _ A67 y787.length y787 := (by rw [hA67]; exact hr67)
         rw [← hy67, ← hA67, ← hc67] at hcut67
         have HO791 := Aside0.mk (show Kd.V (Kd.int .i64) 2 _ w.heap.size _ (.slice A67 y787.length c67) y787 from Kd.V_mk (by rw [hy67, hc67]; exact Nat.sub_le_sub_right hroom67 _) hr67)
         have HC791 := Aside0.mk (show y787.length ≤ c67 from by rw [hy67, hc67]; exact Nat.sub_le_sub_right hroom67 _)
         clear hr67 hC67 hroom67 hi067 hsz67 hc67
         have KY67 := Aside0.mk hy67
         have KA67 := Aside0.mk hA67
         clear hy67 hA67
         replace q67 := eq_true q67
         refine start_ (n := 22) (S := fun w' => w'.cell? ⟨gb781, 0, none⟩ = some (.int .i64 a0_0) ∧ w'.cell? ⟨gb781, 1, none⟩ = some (.slice Ao43 y778.length co43) ∧ w'.cell? ⟨gb781, 2, none⟩ = some (.int .i64 a0_2) ∧ w'.cell? ⟨gb781, 3, none⟩ = some (.int .i64 (wrap64 ((wrap64 ((wrap64 ((wrap64 ((y772.length : Int) + a0_3)) - 1)) + a1_3)) - 1))) ∧ w'.cell? ⟨gb781, 4, none⟩ = some (.slice Ao65 x782004_2.length co65) ∧ w'.cell? ⟨gb768, 0, none⟩ = some (.int .i64 a1_0) ∧ w'.cell? ⟨gb768, 1, none⟩ = some (.slice A1_1 l1_1.length c1_1) ∧ w'.cell? ⟨gb768, 2, none⟩ = some (.int .i64 a1_2) ∧ w'.cell? ⟨gb768, 3, none⟩ = some (.int .i64 a1_3) ∧ w'.cell? ⟨gb768, 4, none⟩ = some (.slice A1_4 l1_4.length c1_4) ∧ w'.cell? ad783 = some (.int .i64 (rd (rd_L1 l0_4 x74_2) 0))) (ds := [18, 21]) #[Z,Z,Z,Z,Z,Z,Z,Z,Z,Z,Z,Z,Z,Z,Z,Z,Z,Z,Z,Z,Z,Z] (by kernel_rfl) rfl rfl ⟨(blk_cell BK781.out 0).trans rfl, (blk_cell BK781.out 1).trans rfl, (blk_cell BK781.out 2).trans rfl, (blk_cell BK781.out 3).trans rfl, (blk_cell BK781.out 4).trans rfl, (blk_cell BK768.out 0).trans rfl, (blk_cell BK768.out 1).trans rfl, (blk_cell BK768.out 2).trans rfl, (blk_cell BK768.out 3).trans rfl, (blk_cell BK768.out 4).trans rfl, hx783_0⟩ (fun hHeld => ?_); refine with_tabW impl_joined.tab11 impl_joined.bits11 (fun HT_ HW_ => ?_)
         generalize wr.drew = w66 at HO_72 O8 O9 Oy Oz Lz BK767 BK768 BK769 BK781 HR782_0 HB HO791 hx783_0 hHeld ⊢
         refine pure_ (i := 0) (N := some 78) (v := ?_) (a' := ?_) #[Y,Z,Z,Z,Z,Z,Z,Z,Z,Z,Z,Z,Z,Z,Z,Z,Z,Z,Z,Z,Z,Z] rfl rfl (any_of HT_.out (by kernel_rfl)) (fun _ _ _ h => h) (Or.inl ⟨by rfl, ?_⟩) ?_ ?_
         rotate_left
         ·intro w'
          go_simp; with_reducible rfl
         rotate_left
         ·simp only [Act.put, List.setIfInBounds_toArray, List.set_cons_zero, List.set_cons_succ, i64_w]
          rfl
         refine pure_ (i := 1) (N := some 79) (v := ?_) (a' := ?_) #[Y,Y,Z,Z,Z,Z,Z,Z,Z,Z,Z,Z,Z,Z,Z,Z,Z,Z,Z,Z,Z,Z] rfl rfl (any_of HT_.out (by kernel_rfl)) (fun _ _ _ h => h) (Or.inl ⟨by rfl, ?_⟩) ?_ ?_
         rotate_left
         ·intro w'
          go_simp; with_reducible rfl
         rotate_left
         ·simp only [Act.put, List.setIfInBounds_toArray, List.set_cons_zero, List.set_cons_succ, i64_w]
          rfl
         refine pure_ (i := 3) (N := some 81) (v := ?_) (a' := ?_) #[Y,Y,Z,Y,Z,Z,Z,Z,Z,Z,Z,Z,Z,Z,Z,Z,Z,Z,Z,Z,Z,Z] rfl rfl (any_of HT_.out (by kernel_rfl)) (fun _ _ _ h => h) (Or.inl ⟨by rfl, ?_⟩) ?_ ?_
         rotate_left
         ·intro w'
          go_simp; with_reducible rfl
         rotate_left
         ·simp only [Act.put, List.setIfInBounds_toArray, List.set_cons_zero, List.set_cons_succ, i64_w]
          rfl
         refine pure_ (i := 4) (N := some 82) (v := ?_) (a' := ?_) #[Y,Y,Z,Y,Y,Z,Z,Z,Z,Z,Z,Z,Z,Z,Z,Z,Z,Z,Z,Z,Z,Z] rfl rfl (any_of HT_.out (by kernel_rfl)) (fun _ _ _ h => h) (Or.inl ⟨by rfl, ?_⟩) ?_ ?_
         rotate_left
         ·intro w'
          go_simp; with_reducible rfl
         rotate_left
         ·simp only [Act.put, List.setIfInBounds_toArray, List.set_cons_zero, List.set_cons_succ, i64_w]
          rfl
         refine pure_ (i := 5) (N := some 83) (v := ?_) (a' := ?_) #[Y,Y,Z,Y,Y,Y,Z,Z,Z,Z,Z,Z,Z,Z,Z,Z,Z,Z,Z,Z,Z,Z] rfl rfl (any_of HT_.out (by kernel_rfl)) (fun _ _ _ h => h) (Or.inl ⟨by rfl, ?_⟩) ?_ ?_
         rotate_left
         ·intro w'
          go_simp; with_reducible rfl
         rotate_left
         ·simp only [Act.put, List.setIfInBounds_toArray, List.set_cons_zero, List.set_cons_succ, i64_w]
          rfl
         refine pure_ (i := 8) (N := some 86) (v := ?_) (a' := ?_) #[Y,Y,Z,Y,Y,Y,Z,Z,Y,Z,Z,Z,Z,Z,Z,Z,Z,Z,Z,Z,Z,Z] rfl rfl (any_of HT_.out (by kernel_rfl)) (fun _ _ _ h => h) (Or.inl ⟨by rfl, ?_⟩) ?_ ?_
         rotate_left
         ·intro w'
          go_simp; with_reducible rfl
         rotate_left
         ·simp only [Act.put, List.setIfInBounds_toArray, List.set_cons_zero, List.set_cons_succ, i64_w]
          rfl
         refine pure_ (i := 9) (N := some 87) (v := ?_) (a' := ?_) #[Y,Y,Z,Y,Y,Y,Z,Z,Y,Y,Z,Z,Z,Z,Z,Z,Z,Z,Z,Z,Z,Z] rfl rfl (any_of HT_.out (by kernel_rfl)) (fun _ _ _ h => h) (Or.inl ⟨by rfl, ?_⟩) ?_ ?_
         rotate_left
         ·intro w'
          go_simp; with_reducible rfl
         rotate_left
         ·simp only [Act.put, List.setIfInBounds_toArray, List.set_cons_zero, List.set_cons_succ, i64_w]
          rfl
         refine pure_ (i := 10) (N := some 88) (v := ?_) (a' := ?_) #[Y,Y,Z,Y,Y,Y,Z,Z,Y,Y,Y,Z,Z,Z,Z,Z,Z,Z,Z,Z,Z,Z] rfl rfl (any_of HT_.out (by kernel_rfl)) (fun _ _ _ h => h) (Or.inl ⟨by rfl, ?_⟩) ?_ ?_
         rotate_left
         ·intro w'
          go_simp; with_reducible rfl
         rotate_left
         ·simp only [Act.put, List.setIfInBounds_toArray, List.set_cons_zero, List.set_cons_succ, i64_w]
          rfl
         refine pure_ (i := 11) (N := some 89) (v := ?_) (a' := ?_) #[Y,Y,Z,Y,Y,Y,Z,Z,Y,Y,Y,Y,Z,Z,Z,Z,Z,Z,Z,Z,Z,Z] rfl rfl (any_of HT_.out (by kernel_rfl)) (fun _ _ _ h => h) (Or.inl ⟨by rfl, ?_⟩) ?_ ?_
         rotate_left
         ·intro w'
          go_simp; with_reducible rfl
         rotate_left
         ·simp only [Act.put, List.setIfInBounds_toArray, List.set_cons_zero, List.set_cons_succ, i64_w]
          rfl
         refine take_ (i := 2) (N := some 80) (v := ?_) (a' := ?_) #[Y,Y,Y,Y,Y,Y,Z,Z,Y,Y,Y,Y,Z,Z,Z,Z,Z,Z,Z,Z,Z,Z] rfl rfl (take_ofW HT_.out HW_.out (by kernel_rfl)) (fun _ _ _ h => h) (Or.inl ⟨by rfl, ?_⟩) hHeld ?_ ?_
         rotate_left
         ·rintro w' ⟨s0, s1, s2, s3, s4, s5, s6, s7, s8, s9, s10⟩
          go_simp
          with_reducible rfl
         rotate_left
         ·simp only [Act.put, List.setIfInBounds_toArray, List.set_cons_zero, List.set_cons_succ, i64_w]
          rfl
         refine take_ (i := 6) (N := some 84) (v := ?_) (a' := ?_) #[Y,Y,Y,Y,Y,Y,Y,Z,Y,Y,Y,Y,Z,Z,Z,Z,Z,Z,Z,Z,Z,Z] rfl rfl (take_ofW HT_.out HW_.out (by kernel_rfl)) (fun _ _ _ h => h) (Or.inl ⟨by rfl, ?_⟩) hHeld ?_ ?_
         rotate_left
         ·rintro w' ⟨s0, s1, s2, s3, s4, s5, s6, s7, s8, s9, s10⟩
          go_simp
          with_reducible rfl
         rotate_left
         ·simp only [Act.put, List.setIfInBounds_toArray, List.set_cons_zero, List.set_cons_succ, i64_w]
          rfl
         refine take_ (i := 12) (N := some 90) (v := ?_) (a' := ?_) #[Y,Y,Y,Y,Y,Y,Y,Z,Y,Y,Y,Y,Y,Z,Z,Z,Z,Z,Z,Z,Z,Z] rfl rfl (take_ofW HT_.out HW_.out (by kernel_rfl)) (fun _ _ _ h => h) (Or.inl ⟨by rfl, ?_⟩) hHeld ?_ ?_
         rotate_left
         ·rintro w' ⟨s0, s1, s2, s3, s4, s5, s6, s7, s8, s9, s10⟩
          go_simp
          with_reducible rfl
         rotate_left
         ·simp only [Act.put, List.setIfInBounds_toArray, List.set_cons_zero, List.set_cons_succ, i64_w]
          rfl
         refine pure_ (i := 13) (N := some 91) (v := ?_) (a' := ?_) #[Y,Y,Y,Y,Y,Y,Y,Z,Y,Y,Y,Y,Y,Y,Z,Z,Z,Z,Z,Z,Z,Z] rfl rfl (any_of HT_.out (by kernel_rfl)) (fun _ _ _ h => h) (Or.inl ⟨by rfl, ?_⟩) ?_ ?_
         rotate_left
         ·intro w'
          go_simp; with_reducible rfl
         rotate_left
         ·simp only [Act.put, List.setIfInBounds_toArray, List.set_cons_zero, List.set_cons_succ, i64_w]
          rfl
         refine join_ (σ := Value × Value) 7 #[Y,Y,Y,Y,Y,Y,Y,Y,Y,Y,Y,Y,Y,Y,Y,Z,Z,Z,Z,Z,Z,Z] (fun s_ => [(85, s_.1), (92, s_.2)]) (fun s_ w' => (w'.cell? ⟨gb781, 0, none⟩ = some (.int .i64 a0_0) ∧ w'.cell? ⟨gb781, 1, none⟩ = some (.slice Ao43 y778.length co43) ∧ w'.cell? ⟨gb781, 2, none⟩ = some (.int .i64 a0_2) ∧ w'.cell? ⟨gb781, 3, none⟩ = some (.int .i64 (wrap64 ((wrap64 ((wrap64 ((wrap64 ((y772.length : Int) + a0_3)) - 1)) + a1_3)) - 1))) ∧ w'.cell? ⟨gb781, 4, none⟩ = some (.slice Ao65 x782004_2.length co65) ∧ w'.cell? ⟨gb768, 0, none⟩ = some (.int .i64 a1_0) ∧ w'.cell? ⟨gb768, 1, none⟩ = some (.slice A1_1 l1_1.length c1_1) ∧ w'.cell? ⟨gb768, 2, none⟩ = some (.int .i64 a1_2) ∧ w'.cell? ⟨gb768, 3, none⟩ = some (.int .i64 a1_3) ∧ w'.cell? ⟨gb768, 4, none⟩ = some (.slice A1_4 l1_4.length c1_4) ∧ w'.cell? ad783 = some (.int .i64 (rd (rd_L1 l0_4 x74_2) 0))) ∧ (Kd.V (Kd.int .i64) 2 w' w.heap.size (fun k_ => ((P0_4_ k_ ∨ P1_4_ k_) ∨ w.heap.size ≤ k_) ∧ some k_ ≠ (s_.1 : Value).ownBlock ∧ some k_ ≠ (s_.2 : Value).ownBlock ∧ some k_ ≠ (.slice Ao43 y778.length co43 : Value).ownBlock ∧ some k_ ≠ (.slice Ao65 x782004_2.length co65 : Value).ownBlock ∧ k_ ≠ gb767 ∧ k_ ≠ gb768 ∧ k_ ≠ gb769 ∧ k_ ≠ gb781) (.slice (some ad783) (rd_L1 l0_4 x74_2).length c782_0) (rd_L1 l0_4 x74_2)) ∧ (Kd.R (Kd.int .i64) 2 w' w.heap.size (fun k_ => (w.heap.size ≤ k_) ∧ some k_ ≠ (s_.2 : Value).ownBlock ∧ some k_ ≠ (.slice Ao43 y778.length co43 : Value).ownBlock) s_.1 y784) ∧ (Kd.V (Kd.int .i64) 2 w' w.heap.size (fun k_ => ((P0_4_ k_ ∨ P1_4_ k_) ∨ w.heap.size ≤ k_) ∧ some k_ ≠ (s_.1 : Value).ownBlock ∧ some k_ ≠ (s_.2 : Value).ownBlock ∧ some k_ ≠ (.slice Ao43 y778.length co43 : Value).ownBlock ∧ some k_ ≠ (.slice Ao65 x782004_2.length co65 : Value).ownBlock ∧ k_ ≠ gb767 ∧ k_ ≠ gb768 ∧ k_ ≠ gb769 ∧ k_ ≠ gb781) (.slice A67 y787.length c67) y787) ∧ (Kd.R (Kd.int .i64) 2 w' w.heap.size (fun k_ => (w.heap.size ≤ k_) ∧ some k_ ≠ (s_.1 : Value).ownBlock ∧ some k_ ≠ (.slice Ao43 y778.length co43 : Value).ownBlock) s_.2 y792) ∧ (Kd.V (Kd.slice 2 (Kd.int .i64)) 35 w' w.heap.size (fun k_ => ((P0_4_ k_ ∨ P1_4_ k_) ∨ w.heap.size ≤ k_) ∧ some k_ ≠ (s_.1 : Value).ownBlock ∧ some k_ ≠ (s_.2 : Value).ownBlock ∧ some k_ ≠ (.slice Ao43 y778.length co43 : Value).ownBlock ∧ some k_ ≠ (.slice Ao65 x782004_2.length co65 : Value).ownBlock ∧ k_ ≠ gb767 ∧ k_ ≠ gb768 ∧ k_ ≠ gb769 ∧ k_ ≠ gb781) (.slice (some ad782) l0_4.length c0_4) l0_4) ∧ (Kd.V (Kd.slice 2 (Kd.int .i64)) 35 w' w.heap.size (fun k_ => ((P0_4_ k_ ∨ P1_4_ k_) ∨ w.heap.size ≤ k_) ∧ some k_ ≠ (s_.1 : Value).ownBlock ∧ some k_ ≠ (s_.2 : Value).ownBlock ∧ some k_ ≠ (.slice Ao43 y778.length co43 : Value).ownBlock ∧ some k_ ≠ (.slice Ao65 x782004_2.length co65 : Value).ownBlock ∧ k_ ≠ gb767 ∧ k_ ≠ gb768 ∧ k_ ≠ gb769 ∧ k_ ≠ gb781) (.slice (some ad782) l0_4.length c0_4) l0_4) ∧ (Kd.V (Kd.slice 2 (Kd.int .i64)) 35 w' w.heap.size (fun k_ => ((P0_4_ k_ ∨ P1_4_ k_) ∨ w.heap.size ≤ k_) ∧ some k_ ≠ (s_.1 : Value).ownBlock ∧ some k_ ≠ (s_.2 : Value).ownBlock ∧ some k_ ≠ (.slice Ao43 y778.length co43 : Value).ownBlock ∧ some k_ ≠ (.slice Ao65 x782004_2.length co65 : Value).ownBlock ∧ k_ ≠ gb767 ∧ k_ ≠ gb768 ∧ k_ ≠ gb769 ∧ k_ ≠ gb781) (.slice A1_4 l1_4.length c1_4) l1_4) ∧ (Kd.R (Kd.int .i64) 2 w' w.heap.size (fun k_ => (w.heap.size ≤ k_) ∧ some k_ ≠ (s_.1 : Value).ownBlock ∧ some k_ ≠ (s_.2 : Value).ownBlock) (.slice Ao43 y778.length co43) y778) ∧ (Kd.S (Kd.slice 2 (Kd.int .i64)) 35 w' w.heap.size (fun k_ => ((P0_4_ k_ ∨ P1_4_ k_) ∨ w.heap.size ≤ k_) ∧ some k_ ≠ (s_.1 : Value).ownBlock ∧ some k_ ≠ (s_.2 : Value).ownBlock ∧ some k_ ≠ (.slice Ao43 y778.length co43 : Value).ownBlock ∧ k_ ≠ gb767 ∧ k_ ≠ gb768 ∧ k_ ≠ gb769 ∧ k_ ≠ gb781) (.slice Ao65 x782004_2.length co65) x782004_2) ∧ (w'.heap[gb767]? = some (.cells #[.int .i64 a0_0, .slice A0_1 l0_1.length c0_1, .int .i64 a0_2, .int .i64 a0_3, .slice (some ad782) l0_4.length c0_4] 53 (0, 0))) ∧ (w'.heap[gb768]? = some (.cells #[.int .i64 a1_0, .slice A1_1 l1_1.length c1_1, .int .i64 a1_2, .int .i64 a1_3, .slice A1_4 l1_4.length c1_4] 53 (0, 0))) ∧ (w'.heap[gb769]? = some (.cells #[.int .i64 0, .slice none 0 0, .int .i64 0, .int .i64 0, .slice none 0 0] 53 (0, 0))) ∧ (w'.heap[gb781]? = some (.cells #[.int .i64 a0_0, .slice Ao43 y778.length co43, .int .i64 a0_2, .int .i64 (wrap64 ((wrap64 ((wrap64 ((wrap64 ((y772.length : Int) + a0_3)) - 1)) + a1_3)) - 1)), .slice Ao65 x782004_2.length co65] 53 (0, 0))) ∧ (Below w.heap.size w w')) ?_ ?_
         rotate_left
         ·intro hCont
          refine two_ (i := 7) (j := 14) (Ni := some 85) (Nj := some 92) #[Y,Y,Y,Y,Y,Y,Y,Y,Y,Y,Y,Y,Y,Y,Z,Z,Z,Z,Z,Z,Z,Z] #[Y,Y,Y,Y,Y,Y,Y,Z,Y,Y,Y,Y,Y,Y,Y,Z,Z,Z,Z,Z,Z,Z] rfl rfl rfl rfl (two_of HT_.out (by kernel_rfl)) (by decide) (by decide) (fun K hK => ?_) (fun K hK => ?_)
          ·skip
           refine combGoes Try.func85 (by kernel_rfl) rfl #[.int .i64 (rd (rd_L1 l0_4 x74_2) 0)] (by rfl) rfl rfl rfl (by simp only [List.map_toArray, List.map_cons, List.map_nil]; rfl) ?_
           rw [show ((#[.int .i64 (rd (rd_L1 l0_4 x74_2) 0)] : Array Value) ++ #[]) = #[.int .i64 (rd (rd_L1 l0_4 x74_2) 0)] from rfl]
           with_reducible refine (own1.calls _ _).mono ?_
           rintro e w68 ⟨v785, rfl, ho69, hb⟩
           refine ⟨_, rfl, ?_⟩
           have HS10_ := (hb.cell (World.block_lt_of_cell? _ _ (hHeld.2.2.2.2.2.2.2.2.2.2))).trans (hHeld.2.2.2.2.2.2.2.2.2.2)
           rw [← Ny784.out] at ho69
           have n0_ := Aside0.mk (Kd.V_elder' HO_72.out (Kd.R_base ho69) hb)
           have n1_ := Aside0.mk (Kd.V_elder' O8.out (Kd.R_base ho69) hb)
           have n2_ := Aside0.mk (Kd.V_elder' O9.out (Kd.R_base ho69) hb)
           have n3_ := Aside0.mk (Kd.R_elder' Oy.out (Kd.R_base ho69) hb)
           have n4_ := Aside0.mk (Kd.S_elder' Oz.out (Kd.R_base ho69) hb)
           have n5_ := Aside0.mk (Kd.V_elder' Lz.out (Kd.R_base ho69) hb)
           have n6_ := Aside0.mk (Kd.V_elder' HO791.out (Kd.R_base ho69) hb)
           have n7_ := Aside0.mk (Kd.R_lower (Kd.R_new' (Kd.R_newM (M := fun k_ => (w.heap.size ≤ k_)) ho69 (below_size HB.out) (fun k_ h_ => h_)) (Kd.R_lt Oy.out)) (below_size HB.out))
           have n8_ := Aside0.mk (blk_below BK767.out hb)
           have n9_ := Aside0.mk (blk_below BK768.out hb)
           have n10_ := Aside0.mk (blk_below BK769.out hb)
           have n11_ := Aside0.mk (blk_below BK781.out hb)
           have n12_ := Aside0.mk (Kd.C_below (by repeat (first | (with_reducible exact HR782_0.out) | (with_reducible refine Kd.C_alloc ?_ _) | (with_reducible refine Kd.C_drewN ?_ _) | (with_reducible refine Kd.C_drew ?_) | exact HR782_0.out)) hb)
           have n13_ := Aside0.mk (below_step HB.out hb)
           clear HO_72 O8 O9 Oy Oz Lz HO791 BK767 BK768 BK769 BK781 HR782_0 HB
           have HO_72 := n0_
           have O8 := n1_
           have O9 := n2_
           have Oy := n3_
           have Oz := n4_
           have Lz := n5_
           have HO791 := n6_
           have HO786 := n7_
           have BK767 := n8_
           have BK768 := n9_
           have BK769 := n10_
           have BK781 := n11_
           have HR782_0 := n12_
           have HB := n13_
           clear n0_ n1_ n2_ n3_ n4_ n5_ n6_ n7_ n8_ n9_ n10_ n11_ n12_ n13_ hb ho69
           refine hK.out _ _ ⟨(blk_cell BK781.out 0).trans rfl, (blk_cell BK781.out 1).trans rfl, (blk_cell BK781.out 2).trans rfl, (blk_cell BK781.out 3).trans rfl, (blk_cell BK781.out 4).trans rfl, (blk_cell BK768.out 0).trans rfl, (blk_cell BK768.out 1).trans rfl, (blk_cell BK768.out 2).trans rfl, (blk_cell BK768.out 3).trans rfl, (blk_cell BK768.out 4).trans rfl, HS10_⟩ (fun hHeld => ?_)
           clear hK K
           refine norm_ (a' := ?_) ?_ ?_
           rotate_left
           ·show Act.put _ (some 85) _ = _
            simp only [Act.put, List.setIfInBounds_toArray, List.set_cons_zero, List.set_cons_succ, i64_w]
            rfl
           refine one_ (i := 14) (N := some 92) #[Y,Y,Y,Y,Y,Y,Y,Y,Y,Y,Y,Y,Y,Y,Y,Z,Z,Z,Z,Z,Z,Z] rfl rfl (one_of HT_.out (by kernel_rfl)) (by decide) (fun K hK => ?_)
           refine Kd.R_make_step (Kd.int .i64) _ 2 (by rfl) (N := 92) rfl 35 _ _ rfl ji60 rfl rfl Try.underlying35 (.int .i64 0) 8 info2 rfl (by decide) (by omega) 0 (ok := fun _ => True) (okp := fun _ => True) rfl (fun _ hk => hk) trivial (of_decide_eq_true (by first | (with_reducible assumption) | assumption)) (Nat.le_trans (Nat.mul_le_mul_right _ (of_decide_eq_true (by first | (with_reducible assumption) | assumption) : ji60.toNat ≤ 35184372088832)) (by omega)) (Below.refl _ _) (Nat.le_refl _) ?_
           intro v793 w70 ho71 hb hg_ hnew_
           have HS10_ := (hb.cell (World.block_lt_of_cell? _ _ (hHeld.2.2.2.2.2.2.2.2.2.2))).trans (hHeld.2.2.2.2.2.2.2.2.2.2)
           clear hg_ hnew_
           rw [← Ny792.out] at ho71
           have n0_ := Aside0.mk (Kd.V_elder' HO_72.out (Kd.R_base ho71) hb)
           have n1_ := Aside0.mk (Kd.V_elder' O8.out (Kd.R_base ho71) hb)
           have n2_ := Aside0.mk (Kd.V_elder' O9.out (Kd.R_base ho71) hb)
           have n3_ := Aside0.mk (Kd.R_elder' Oy.out (Kd.R_base ho71) hb)
           have n4_ := Aside0.mk (Kd.S_elder' Oz.out (Kd.R_base ho71) hb)
           have n5_ := Aside0.mk (Kd.V_elder' Lz.out (Kd.R_base ho71) hb)
           have n6_ := Aside0.mk (Kd.V_elder' HO791.out (Kd.R_base ho71) hb)
           have n7_ := Aside0.mk (Kd.R_elder' HO786.out (Kd.R_base ho71) hb)
           have n8_ := Aside0.mk (Kd.R_lower (Kd.R_new' (Kd.R_new' (Kd.R_newM (M := fun k_ => (w.heap.size ≤ k_)) ho71 (below_size HB.out) (fun k_ h_ => h_)) (Kd.R_lt Oy.out)) (Kd.R_lt HO786.out)) (below_size HB.out))
           have n9_ := Aside0.mk (blk_below BK767.out hb)
           have n10_ := Aside0.mk (blk_below BK768.out hb)
           have n11_ := Aside0.mk (blk_below BK769.out hb)
           have n12_ := Aside0.mk (blk_below BK781.out hb)
           have n13_ := Aside0.mk (Kd.C_below (by repeat (first | (with_reducible exact HR782_0.out) | (with_reducible refine Kd.C_alloc ?_ _) | (with_reducible refine Kd.C_drewN ?_ _) | (with_reducible refine Kd.C_drew ?_) | exact HR782_0.out)) hb)
           have n14_ := Aside0.mk (below_step HB.out hb)
           clear HO_72 O8 O9 Oy Oz Lz HO791 HO786 BK767 BK768 BK769 BK781 HR782_0 HB
           have HO_72 := n0_
           have O8 := n1_
           have O9 := n2_
           have Oy := n3_
           have Oz := n4_
           have Lz := n5_
           have HO791 := n6_
           have HO786 := n7_
           have HO794 := n8_
           have BK767 := n9_
           have BK768 := n10_
           have BK769 := n11_
           have BK781 := n12_
           have HR782_0 := n13_
           have HB := n14_
           clear n0_ n1_ n2_ n3_ n4_ n5_ n6_ n7_ n8_ n9_ n10_ n11_ n12_ n13_ n14_ hb ho71
           refine hK.out _ _ ⟨(blk_cell BK781.out 0).trans rfl, (blk_cell BK781.out 1).trans rfl, (blk_cell BK781.out 2).trans rfl, (blk_cell BK781.out 3).trans rfl, (blk_cell BK781.out 4).trans rfl, (blk_cell BK768.out 0).trans rfl, (blk_cell BK768.out 1).trans rfl, (blk_cell BK768.out 2).trans rfl, (blk_cell BK768.out 3).trans rfl, (blk_cell BK768.out 4).trans rfl, HS10_⟩ (fun hHeld => ?_)
           clear hK K
           refine norm_ (a' := ?_) ?_ ?_
           rotate_left
           ·show Act.put _ (some 92) _ = _
            simp only [Act.put, List.setIfInBounds_toArray, List.set_cons_zero, List.set_cons_succ, i64_w]
            rfl
           exact norm_ (by simp only [putAll, Act.put, List.setIfInBounds_toArray, List.set_cons_zero, List.set_cons_succ]) (hCont (v785, v793) _ ⟨hHeld, (by (with_reducible repeat (first | apply Kd.V_alloc | apply Kd.V_drewN | apply Kd.V_drew)); exact Kd.V_mono Lz.out (fun _ hk => ⟨hk.1.1.1, ⟨hk.1.2, ⟨hk.2, ⟨hk.1.1.2.1, ⟨hk.1.1.2.2.1, ⟨hk.1.1.2.2.2.1, ⟨hk.1.1.2.2.2.2.1, ⟨hk.1.1.2.2.2.2.2.1, hk.1.1.2.2.2.2.2.2⟩⟩⟩⟩⟩⟩⟩⟩)), (by (with_reducible repeat (first | apply Kd.R_alloc | apply Kd.R_drewN | apply Kd.R_drew)); exact Kd.R_mono HO786.out (fun _ hk => ⟨hk.1.1.1, ⟨hk.2, hk.1.2⟩⟩)), (by (with_reducible repeat (first | apply Kd.V_alloc | apply Kd.V_drewN | apply Kd.V_drew)); exact Kd.V_mono HO791.out (fun _ hk => ⟨hk.1.1.1, ⟨hk.1.2, ⟨hk.2, ⟨hk.1.1.2.1, ⟨hk.1.1.2.2.1, ⟨hk.1.1.2.2.2.1, ⟨hk.1.1.2.2.2.2.1, ⟨hk.1.1.2.2.2.2.2.1, hk.1.1.2.2.2.2.2.2⟩⟩⟩⟩⟩⟩⟩⟩)), (by (with_reducible repeat (first | apply Kd.R_alloc | apply Kd.R_drewN | apply Kd.R_drew)); exact Kd.R_mono HO794.out (fun _ hk => ⟨hk.1.1.1, ⟨hk.2, hk.1.2⟩⟩)), (by (with_reducible repeat (first | apply Kd.V_alloc | apply Kd.V_drewN | apply Kd.V_drew)); exact Kd.V_mono HO_72.out (fun _ hk => ⟨hk.1.1.1, ⟨hk.1.2, ⟨hk.2, ⟨hk.1.1.2.1, ⟨hk.1.1.2.2.1, ⟨hk.1.1.2.2.2.1, ⟨hk.1.1.2.2.2.2.1, ⟨hk.1.1.2.2.2.2.2.1, hk.1.1.2.2.2.2.2.2⟩⟩⟩⟩⟩⟩⟩⟩)), (by (with_reducible repeat (first | apply Kd.V_alloc | apply Kd.V_drewN | apply Kd.V_drew)); exact Kd.V_mono O8.out (fun _ hk => ⟨hk.1.1.1, ⟨hk.1.2, ⟨hk.2, ⟨hk.1.1.2.1, ⟨hk.1.1.2.2.1, ⟨hk.1.1.2.2.2.1, ⟨hk.1.1.2.2.2.2.1, ⟨hk.1.1.2.2.2.2.2.1, hk.1.1.2.2.2.2.2.2⟩⟩⟩⟩⟩⟩⟩⟩)), (by (with_reducible repeat (first | apply Kd.V_alloc | apply Kd.V_drewN | apply Kd.V_drew)); exact Kd.V_mono O9.out (fun _ hk => ⟨hk.1.1.1, ⟨hk.1.2, ⟨hk.2, ⟨hk.1.1.2.1, ⟨hk.1.1.2.2.1, ⟨hk.1.1.2.2.2.1, ⟨hk.1.1.2.2.2.2.1, ⟨hk.1.1.2.2.2.2.2.1, hk.1.1.2.2.2.2.2.2⟩⟩⟩⟩⟩⟩⟩⟩)), (by (with_reducible repeat (first | apply Kd.R_alloc | apply Kd.R_drewN | apply Kd.R_drew)); exact Kd.R_mono Oy.out (fun _ hk => ⟨hk.1.1, ⟨hk.1.2, hk.2⟩⟩)), (by (with_reducible repeat (first | apply Kd.S_alloc | apply Kd.S_drewN | apply Kd.S_drew)); exact Kd.S_mono Oz.out (fun _ hk => ⟨hk.1.1.1, ⟨hk.1.2, ⟨hk.2, ⟨hk.1.1.2.1, ⟨hk.1.1.2.2.1, ⟨hk.1.1.2.2.2.1, ⟨hk.1.1.2.2.2.2.1, hk.1.1.2.2.2.2.2⟩⟩⟩⟩⟩⟩⟩)), BK767.out, BK768.out, BK769.out, BK781.out, (by repeat (first | exact HB.out | refine below_set ?_ GE769.out | refine below_set ?_ GE781.out))⟩)
          ·skip
           refine Kd.R_make_step (Kd.int .i64) _ 2 (by rfl) (N := 92) rfl 35 _ _ rfl ji60 rfl rfl Try.underlying35 (.int .i64 0) 8 info2 rfl (by decide) (by omega) 0 (ok := fun _ => True) (okp := fun _ => True) rfl (fun _ hk => hk) trivial (of_decide_eq_true (by first | (with_reducible assumption) | assumption)) (Nat.le_trans (Nat.mul_le_mul_right _ (of_decide_eq_true (by first | (with_reducible assumption) | assumption) : ji60.toNat ≤ 35184372088832)) (by omega)) (Below.refl _ _) (Nat.le_refl _) ?_
           intro v793 w68 ho69 hb hg_ hnew_
           have HS10_ := (hb.cell (World.block_lt_of_cell? _ _ (hHeld.2.2.2.2.2.2.2.2.2.2))).trans (hHeld.2.2.2.2.2.2.2.2.2.2)
           clear hg_ hnew_
           rw [← Ny792.out] at ho69
           have n0_ := Aside0.mk (Kd.V_elder' HO_72.out (Kd.R_base ho69) hb)
           have n1_ := Aside0.mk (Kd.V_elder' O8.out (Kd.R_base ho69) hb)
           have n2_ := Aside0.mk (Kd.V_elder' O9.out (Kd.R_base ho69) hb)
           have n3_ := Aside0.mk (Kd.R_elder' Oy.out (Kd.R_base ho69) hb)
           have n4_ := Aside0.mk (Kd.S_elder' Oz.out (Kd.R_base ho69) hb)
           have n5_ := Aside0.mk (Kd.V_elder' Lz.out (Kd.R_base ho69) hb)
           have n6_ := Aside0.mk (Kd.V_elder' HO791.out (Kd.R_base ho69) hb)
           have n7_ := Aside0.mk (Kd.R_lower (Kd.R_new' (Kd.R_newM (M := fun k_ => (w.heap.size ≤ k_)) ho69 (below_size HB.out) (fun k_ h_ => h_)) (Kd.R_lt Oy.out)) (below_size HB.out))
           have n8_ := Aside0.mk (blk_below BK767.out hb)
           have n9_ := Aside0.mk (blk_below BK768.out hb)
           have n10_ := Aside0.mk (blk_below BK769.out hb)
           have n11_ := Aside0.mk (blk_below BK781.out hb)
           have n12_ := Aside0.mk (Kd.C_below (by repeat (first | (with_reducible exact HR782_0.out) | (with_reducible refine Kd.C_alloc ?_ _) | (with_reducible refine Kd.C_drewN ?_ _) | (with_reducible refine Kd.C_drew ?_) | exact HR782_0.out)) hb)
           have n13_ := Aside0.mk (below_step HB.out hb)
           clear HO_72 O8 O9 Oy Oz Lz HO791 BK767 BK768 BK769 BK781 HR782_0 HB
           have HO_72 := n0_
           have O8 := n1_
           have O9 := n2_
           have Oy := n3_
           have Oz := n4_
           have Lz := n5_
           have HO791 := n6_
           have HO794 := n7_
           have BK767 := n8_
           have BK768 := n9_
           have BK769 := n10_
           have BK781 := n11_
           have HR782_0 := n12_
           have HB := n13_
           clear n0_ n1_ n2_ n3_ n4_ n5_ n6_ n7_ n8_ n9_ n10_ n11_ n12_ n13_ hb ho69
           refine hK.out _ _ ⟨(blk_cell BK781.out 0).trans rfl, (blk_cell BK781.out 1).trans rfl, (blk_cell BK781.out 2).trans rfl, (blk_cell BK781.out 3).trans rfl, (blk_cell BK781.out 4).trans rfl, (blk_cell BK768.out 0).trans rfl, (blk_cell BK768.out 1).trans rfl, (blk_cell BK768.out 2).trans rfl, (blk_cell BK768.out 3).trans rfl, (blk_cell BK768.out 4).trans rfl, HS10_⟩ (fun hHeld => ?_)
           clear hK K
           refine norm_ (a' := ?_) ?_ ?_
           rotate_left
           ·show Act.put _ (some 92) _ = _
            simp only [Act.put, List.setIfInBounds_toArray, List.set_cons_zero, List.set_cons_succ, i64_w]
            rfl
           refine one_ (i := 7) (N := some 85) #[Y,Y,Y,Y,Y,Y,Y,Y,Y,Y,Y,Y,Y,Y,Y,Z,Z,Z,Z,Z,Z,Z] rfl rfl (one_of HT_.out (by kernel_rfl)) (by decide) (fun K hK => ?_)
           refine combGoes Try.func85 (by kernel_rfl) rfl #[.int .i64 (rd (rd_L1 l0_4 x74_2) 0)] (by rfl) rfl rfl rfl (by simp only [List.map_toArray, List.map_cons, List.map_nil]; rfl) ?_
           rw [show ((#[.int .i64 (rd (rd_L1 l0_4 x74_2) 0)] : Array Value) ++ #[]) = #[.int .i64 (rd (rd_L1 l0_4 x74_2) 0)] from rfl]
           with_reducible refine (own1.calls _ _).mono ?_
           rintro e w70 ⟨v785, rfl, ho71, hb⟩
           refine ⟨_, rfl, ?_⟩
           have HS10_ := (hb.cell (World.block_lt_of_cell? _ _ (hHeld.2.2.2.2.2.2.2.2.2.2))).trans (hHeld.2.2.2.2.2.2.2.2.2.2)
           rw [← Ny784.out] at ho71
           have n0_ := Aside0.mk (Kd.V_elder' HO_72.out (Kd.R_base ho71) hb)
           have n1_ := Aside0.mk (Kd.V_elder' O8.out (Kd.R_base ho71) hb)
           have n2_ := Aside0.mk (Kd.V_elder' O9.out (Kd.R_base ho71) hb)
           have n3_ := Aside0.mk (Kd.R_elder' Oy.out (Kd.R_base ho71) hb)
           have n4_ := Aside0.mk (Kd.S_elder' Oz.out (Kd.R_base ho71) hb)
           have n5_ := Aside0.mk (Kd.V_elder' Lz.out (Kd.R_base ho71) hb)
           have n6_ := Aside0.mk (Kd.V_elder' HO791.out (Kd.R_base ho71) hb)
           have n7_ := Aside0.mk (Kd.R_elder' HO794.out (Kd.R_base ho71) hb)
           have n8_ := Aside0.mk (Kd.R_lower (Kd.R_new' (Kd.R_new' (Kd.R_newM (M := fun k_ => (w.heap.size ≤ k_)) ho71 (below_size HB.out) (fun k_ h_ => h_)) (Kd.R_lt Oy.out)) (Kd.R_lt HO794.out)) (below_size HB.out))
           have n9_ := Aside0.mk (blk_below BK767.out hb)
           have n10_ := Aside0.mk (blk_below BK768.out hb)
           have n11_ := Aside0.mk (blk_below BK769.out hb)
           have n12_ := Aside0.mk (blk_below BK781.out hb)
           have n13_ := Aside0.mk (Kd.C_below (by repeat (first | (with_reducible exact HR782_0.out) | (with_reducible refine Kd.C_alloc ?_ _) | (with_reducible refine Kd.C_drewN ?_ _) | (with_reducible refine Kd.C_drew ?_) | exact HR782_0.out)) hb)
           have n14_ := Aside0.mk (below_step HB.out hb)
           clear HO_72 O8 O9 Oy Oz Lz HO791 HO794 BK767 BK768 BK769 BK781 HR782_0 HB
           have HO_72 := n0_
           have O8 := n1_
           have O9 := n2_
           have Oy := n3_
           have Oz := n4_
           have Lz := n5_
           have HO791 := n6_
           have HO794 := n7_
           have HO786 := n8_
           have BK767 := n9_
           have BK768 := n10_
           have BK769 := n11_
           have BK781 := n12_
           have HR782_0 := n13_
           have HB := n14_
           clear n0_ n1_ n2_ n3_ n4_ n5_ n6_ n7_ n8_ n9_ n10_ n11_ n12_ n13_ n14_ hb ho71
           refine hK.out _ _ ⟨(blk_cell BK781.out 0).trans rfl, (blk_cell BK781.out 1).trans rfl, (blk_cell BK781.out 2).trans rfl, (blk_cell BK781.out 3).trans rfl, (blk_cell BK781.out 4).trans rfl, (blk_cell BK768.out 0).trans rfl, (blk_cell BK768.out 1).trans rfl, (blk_cell BK768.out 2).trans rfl, (blk_cell BK768.out 3).trans rfl, (blk_cell BK768.out 4).trans rfl, HS10_⟩ (fun hHeld => ?_)
           clear hK K
           refine norm_ (a' := ?_) ?_ ?_
           rotate_left
           ·show Act.put _ (some 85) _ = _
            simp only [Act.put, List.setIfInBounds_toArray, List.set_cons_zero, List.set_cons_succ, i64_w]
            rfl
           exact norm_ (by simp only [putAll, Act.put, List.setIfInBounds_toArray, List.set_cons_zero, List.set_cons_succ]) (hCont (v785, v793) _ ⟨hHeld, (by (with_reducible repeat (first | apply Kd.V_alloc | apply Kd.V_drewN | apply Kd.V_drew)); exact Kd.V_mono Lz.out (fun _ hk => ⟨hk.1.1.1, ⟨hk.2, ⟨hk.1.2, ⟨hk.1.1.2.1, ⟨hk.1.1.2.2.1, ⟨hk.1.1.2.2.2.1, ⟨hk.1.1.2.2.2.2.1, ⟨hk.1.1.2.2.2.2.2.1, hk.1.1.2.2.2.2.2.2⟩⟩⟩⟩⟩⟩⟩⟩)), (by (with_reducible repeat (first | apply Kd.R_alloc | apply Kd.R_drewN | apply Kd.R_drew)); exact Kd.R_mono HO786.out (fun _ hk => ⟨hk.1.1.1, ⟨hk.2, hk.1.2⟩⟩)), (by (with_reducible repeat (first | apply Kd.V_alloc | apply Kd.V_drewN | apply Kd.V_drew)); exact Kd.V_mono HO791.out (fun _ hk => ⟨hk.1.1.1, ⟨hk.2, ⟨hk.1.2, ⟨hk.1.1.2.1, ⟨hk.1.1.2.2.1, ⟨hk.1.1.2.2.2.1, ⟨hk.1.1.2.2.2.2.1, ⟨hk.1.1.2.2.2.2.2.1, hk.1.1.2.2.2.2.2.2⟩⟩⟩⟩⟩⟩⟩⟩)), (by (with_reducible repeat (first | apply Kd.R_alloc | apply Kd.R_drewN | apply Kd.R_drew)); exact Kd.R_mono HO794.out (fun _ hk => ⟨hk.1.1.1, ⟨hk.2, hk.1.2⟩⟩)), (by (with_reducible repeat (first | apply Kd.V_alloc | apply Kd.V_drewN | apply Kd.V_drew)); exact Kd.V_mono HO_72.out (fun _ hk => ⟨hk.1.1.1, ⟨hk.2, ⟨hk.1.2, ⟨hk.1.1.2.1, ⟨hk.1.1.2.2.1, ⟨hk.1.1.2.2.2.1, ⟨hk.1.1.2.2.2.2.1, ⟨hk.1.1.2.2.2.2.2.1, hk.1.1.2.2.2.2.2.2⟩⟩⟩⟩⟩⟩⟩⟩)), (by (with_reducible repeat (first | apply Kd.V_alloc | apply Kd.V_drewN | apply Kd.V_drew)); exact Kd.V_mono O8.out (fun _ hk => ⟨hk.1.1.1, ⟨hk.2, ⟨hk.1.2, ⟨hk.1.1.2.1, ⟨hk.1.1.2.2.1, ⟨hk.1.1.2.2.2.1, ⟨hk.1.1.2.2.2.2.1, ⟨hk.1.1.2.2.2.2.2.1, hk.1.1.2.2.2.2.2.2⟩⟩⟩⟩⟩⟩⟩⟩)), (by (with_reducible repeat (first | apply Kd.V_alloc | apply Kd.V_drewN | apply Kd.V_drew)); exact Kd.V_mono O9.out (fun _ hk => ⟨hk.1.1.1, ⟨hk.2, ⟨hk.1.2, ⟨hk.1.1.2.1, ⟨hk.1.1.2.2.1, ⟨hk.1.1.2.2.2.1, ⟨hk.1.1.2.2.2.2.1, ⟨hk.1.1.2.2.2.2.2.1, hk.1.1.2.2.2.2.2.2⟩⟩⟩⟩⟩⟩⟩⟩)), (by (with_reducible repeat (first | apply Kd.R_alloc | apply Kd.R_drewN | apply Kd.R_drew)); exact Kd.R_mono Oy.out (fun _ hk => ⟨hk.1.1, ⟨hk.2, hk.1.2⟩⟩)), (by (with_reducible repeat (first | apply Kd.S_alloc | apply Kd.S_drewN | apply Kd.S_drew)); exact Kd.S_mono Oz.out (fun _ hk => ⟨hk.1.1.1, ⟨hk.2, ⟨hk.1.2, ⟨hk.1.1.2.1, ⟨hk.1.1.2.2.1, ⟨hk.1.1.2.2.2.1, ⟨hk.1.1.2.2.2.2.1, hk.1.1.2.2.2.2.2⟩⟩⟩⟩⟩⟩⟩)), BK767.out, BK768.out, BK769.out, BK781.out, (by repeat (first | exact HB.out | refine below_set ?_ GE769.out | refine below_set ?_ GE781.out))⟩)
         rintro ⟨v785, v793⟩ w72 ⟨hS_, h0_, h1_, h2_, h3_, h4_, h5_, h6_, h7_, h8_, h9_, h10_, h11_, h12_, h13_⟩
         have n0_ : Aside0 (Kd.V (Kd.int .i64) 2 w72 w.heap.size (fun k_ => ((P0_4_ k_ ∨ P1_4_ k_) ∨ w.heap.size ≤ k_) ∧ some k_ ≠ (v785 : Value).ownBlock ∧ some k_ ≠ (v793 : Value).ownBlock ∧ some k_ ≠ (.slice Ao43 y778.length co43 : Value).ownBlock ∧ some k_ ≠ (.slice Ao65 x782004_2.length co65 : Value).ownBlock ∧ k_ ≠ gb767 ∧ k_ ≠ gb768 ∧ k_ ≠ gb769 ∧ k_ ≠ gb781) (.slice (some ad783) (rd_L1 l0_4 x74_2).length c782_0) (rd_L1 l0_4 x74_2)) := ⟨h0_⟩
         have n1_ : Aside0 (Kd.R (Kd.int .i64) 2 w72 w.heap.size (fun k_ => (w.heap.size ≤ k_) ∧ some k_ ≠ (v793 : Value).ownBlock ∧ some k_ ≠ (.slice Ao43 y778.length co43 : Value).ownBlock) v785 y784) := ⟨h1_⟩
         have n2_ : Aside0 (Kd.V (Kd.int .i64) 2 w72 w.heap.size (fun k_ => ((P0_4_ k_ ∨ P1_4_ k_) ∨ w.heap.size ≤ k_) ∧ some k_ ≠ (v785 : Value).ownBlock ∧ some k_ ≠ (v793 : Value).ownBlock ∧ some k_ ≠ (.slice Ao43 y778.length co43 : Value).ownBlock ∧ some k_ ≠ (.slice Ao65 x782004_2.length co65 : Value).ownBlock ∧ k_ ≠ gb767 ∧ k_ ≠ gb768 ∧ k_ ≠ gb769 ∧ k_ ≠ gb781) (.slice A67 y787.length c67) y787) := ⟨h2_⟩
         have n3_ : Aside0 (Kd.R (Kd.int .i64) 2 w72 w.heap.size (fun k_ => (w.heap.size ≤ k_) ∧ some k_ ≠ (v785 : Value).ownBlock ∧ some k_ ≠ (.slice Ao43 y778.length co43 : Value).ownBlock) v793 y792) := ⟨h3_⟩
         have n4_ : Aside0 (Kd.V (Kd.slice 2 (Kd.int .i64)) 35 w72 w.heap.size (fun k_ => ((P0_4_ k_ ∨ P1_4_ k_) ∨ w.heap.size ≤ k_) ∧ some k_ ≠ (v785 : Value).ownBlock ∧ some k_ ≠ (v793 : Value).ownBlock ∧ some k_ ≠ (.slice Ao43 y778.length co43 : Value).ownBlock ∧ some k_ ≠ (.slice Ao65 x782004_2.length co65 : Value).ownBlock ∧ k_ ≠ gb767 ∧ k_ ≠ gb768 ∧ k_ ≠ gb769 ∧ k_ ≠ gb781) (.slice (some ad782) l0_4.length c0_4) l0_4) := ⟨h4_⟩
         have n5_ : Aside0 (Kd.V (Kd.slice 2 (Kd.int .i64)) 35 w72 w.heap.size (fun k_ => ((P0_4_ k_ ∨ P1_4_ k_) ∨ w.heap.size ≤ k_) ∧ some k_ ≠ (v785 : Value).ownBlock ∧ some k_ ≠ (v793 : Value).ownBlock ∧ some k_ ≠ (.slice Ao43 y778.length co43 : Value).ownBlock ∧ some k_ ≠ (.slice Ao65 x782004_2.length co65 : Value).ownBlock ∧ k_ ≠ gb767 ∧ k_ ≠ gb768 ∧ k_ ≠ gb769 ∧ k_ ≠ gb781) (.slice (some ad782) l0_4.length c0_4) l0_4) := ⟨h5_⟩
         have n6_ : Aside0 (Kd.V (Kd.slice 2 (Kd.int .i64)) 35 w72 w.heap.size (fun k_ => ((P0_4_ k_ ∨ P1_4_ k_) ∨ w.heap.size ≤ k_) ∧ some k_ ≠ (v785 : Value).ownBlock ∧ some k_ ≠ (v793 : Value).ownBlock ∧ some k_ ≠ (.slice Ao43 y778.length co43 : Value).ownBlock ∧ some k_ ≠ (.slice Ao65 x782004_2.length co65 : Value).ownBlock ∧ k_ ≠ gb767 ∧ k_ ≠ gb768 ∧ k_ ≠ gb769 ∧ k_ ≠ gb781) (.slice A1_4 l1_4.length c1_4) l1_4) := ⟨h6_⟩
         have n7_ : Aside0 (Kd.R (Kd.int .i64) 2 w72 w.heap.size (fun k_ => (w.heap.size ≤ k_) ∧ some k_ ≠ (v785 : Value).ownBlock ∧ some k_ ≠ (v793 : Value).ownBlock) (.slice Ao43 y778.length co43) y778) := ⟨h7_⟩
         have n8_ : Aside0 (Kd.S (Kd.slice 2 (Kd.int .i64)) 35 w72 w.heap.size (fun k_ => ((P0_4_ k_ ∨ P1_4_ k_) ∨ w.heap.size ≤ k_) ∧ some k_ ≠ (v785 : Value).ownBlock ∧ some k_ ≠ (v793 : Value).ownBlock ∧ some k_ ≠ (.slice Ao43 y778.length co43 : Value).ownBlock ∧ k_ ≠ gb767 ∧ k_ ≠ gb768 ∧ k_ ≠ gb769 ∧ k_ ≠ gb781) (.slice Ao65 x782004_2.length co65) x782004_2) := ⟨h8_⟩
         have n9_ : Aside0 (w72.heap[gb767]? = some (.cells #[.int .i64 a0_0, .slice A0_1 l0_1.length c0_1, .int .i64 a0_2, .int .i64 a0_3, .slice (some ad782) l0_4.length c0_4] 53 (0, 0))) := ⟨h9_⟩
         have n10_ : Aside0 (w72.heap[gb768]? = some (.cells #[.int .i64 a1_0, .slice A1_1 l1_1.length c1_1, .int .i64 a1_2, .int .i64 a1_3, .slice A1_4 l1_4.length c1_4] 53 (0, 0))) := ⟨h10_⟩
         have n11_ : Aside0 (w72.heap[gb769]? = some (.cells #[.int .i64 0, .slice none 0 0, .int .i64 0, .int .i64 0, .slice none 0 0] 53 (0, 0))) := ⟨h11_⟩
         have n12_ : Aside0 (w72.heap[gb781]? = some (.cells #[.int .i64 a0_0, .slice Ao43 y778.length co43, .int .i64 a0_2, .int .i64 (wrap64 ((wrap64 ((wrap64 ((wrap64 ((y772.length : Int) + a0_3)) - 1)) + a1_3)) - 1)), .slice Ao65 x782004_2.length co65] 53 (0, 0))) := ⟨h12_⟩
         have n13_ : Aside0 (Below w.heap.size w w72) := ⟨h13_⟩
         clear HO_72 O8 O9 Oy Oz Lz BK767 BK768 BK769 BK781 HR782_0 HB h0_ h1_ h2_ h3_ h4_ h5_ h6_ h7_ h8_ h9_ h10_ h11_ h12_ h13_
         have Lz := n0_
         have HO786 := n1_
         have HO791 := n2_
         have HO794 := n3_
         have HO_72 := n4_
         have O8 := n5_
         have O9 := n6_
         have Oy := n7_
         have Oz := n8_
         have BK767 := n9_
         have BK768 := n10_
         have BK769 := n11_
         have BK781 := n12_
         have HB := n13_
         clear n0_ n1_ n2_ n3_ n4_ n5_ n6_ n7_ n8_ n9_ n10_ n11_ n12_ n13_
         have hHeld : w72.cell? ⟨gb781, 0, none⟩ = some (.int .i64 a0_0) ∧ w72.cell? ⟨gb781, 1, none⟩ = some (.slice Ao43 y778.length co43) ∧ w72.cell? ⟨gb781, 2, none⟩ = some (.int .i64 a0_2) ∧ w72.cell? ⟨gb781, 3, none⟩ = some (.int .i64 (wrap64 ((wrap64 ((wrap64 ((wrap64 ((y772.length : Int) + a0_3)) - 1)) + a1_3)) - 1))) ∧ w72.cell? ⟨gb781, 4, none⟩ = some (.slice Ao65 x782004_2.length co65) ∧ w72.cell? ⟨gb768, 0, none⟩ = some (.int .i64 a1_0) ∧ w72.cell? ⟨gb768, 1, none⟩ = some (.slice A1_1 l1_1.length c1_1) ∧ w72.cell? ⟨gb768, 2, none⟩ = some (.int .i64 a1_2) ∧ w72.cell? ⟨gb768, 3, none⟩ = some (.int .i64 a1_3) ∧ w72.cell? ⟨gb768, 4, none⟩ = some (.slice A1_4 l1_4.length c1_4) ∧ w72.cell? ad783 = some (.int .i64 (rd (rd_L1 l0_4 x74_2) 0)) := hS_
         obtain ⟨Ao73, co73, eo73⟩ := Kd.R_slice HO786.out
         subst eo73
         obtain ⟨Ao74, co74, eo74⟩ := Kd.R_slice HO794.out
         subst eo74
         refine norm_ (a' := ?_) ?_ ?_
         rotate_left
         ·simp only [putAll, Act.put, List.setIfInBounds_toArray, List.set_cons_zero, List.set_cons_succ]
          rfl
         refine one_ (i := 15) (N := some 93) #[Y,Y,Y,Y,Y,Y,Y,Y,Y,Y,Y,Y,Y,Y,Y,Y,Z,Z,Z,Z,Z,Z] rfl rfl (one_of HT_.out (by kernel_rfl)) (by decide) (fun K hK => ?_)
         refine Kd.N_lit_step (Kd.slice 2 (Kd.int .i64)) _ 35 ?hg (N' := 93) ?hd (xs := ([y784, y787, y792] : List (List Int))) (inner := [.slice Ao73 y784.length co73, .slice A67 y787.length c67, .slice Ao74 y792.length co74]) (ok := (fun k_ => ((P0_4_ k_ ∨ P1_4_ k_) ∨ w.heap.size ≤ k_) ∧ some k_ ≠ (.slice Ao43 y778.length co43 : Value).ownBlock ∧ some k_ ≠ (.slice Ao65 x782004_2.length co65 : Value).ownBlock ∧ k_ ≠ gb767 ∧ k_ ≠ gb768 ∧ k_ ≠ gb769 ∧ k_ ≠ gb781)) (okp := (fun k_ => ((P0_4_ k_ ∨ P1_4_ k_) ∨ w.heap.size ≤ k_) ∧ some k_ ≠ (.slice Ao43 y778.length co43 : Value).ownBlock ∧ some k_ ≠ (.slice Ao65 x782004_2.length co65 : Value).ownBlock ∧ k_ ≠ gb767 ∧ k_ ≠ gb768 ∧ k_ ≠ gb769 ∧ k_ ≠ gb781)) ?hr ?hp (fun _ hk => hk) ((show ∀ k_, w72.heap.size ≤ k_ → (fun k_ => ((P0_4_ k_ ∨ P1_4_ k_) ∨ w.heap.size ≤ k_) ∧ some k_ ≠ (.slice Ao43 y778.length co43 : Value).ownBlock ∧ some k_ ≠ (.slice Ao65 x782004_2.length co65 : Value).ownBlock ∧ k_ ≠ gb767 ∧ k_ ≠ gb768 ∧ k_ ≠ gb769 ∧ k_ ≠ gb781) k_ from fun k_ hk => ⟨(.inr (Nat.le_trans (below_size HB.out) hk)), Kd.fresh' (Kd.R_lt Oy.out) k_ hk, Kd.fresh' (Kd.S_lt Oz.out) k_ hk, Kd.freshB (g := gb767) (o := .cells #[.int .i64 a0_0, .slice A0_1 l0_1.length c0_1, .int .i64 a0_2, .int .i64 a0_3, .slice (some ad782) l0_4.length c0_4] 53 (0, 0)) BK767.out k_ hk, Kd.freshB (g := gb768) (o := .cells #[.int .i64 a1_0, .slice A1_1 l1_1.length c1_1, .int .i64 a1_2, .int .i64 a1_3, .slice A1_4 l1_4.length c1_4] 53 (0, 0)) BK768.out k_ hk, Kd.freshB (g := gb769) (o := .cells #[.int .i64 0, .slice none 0 0, .int .i64 0, .int .i64 0, .slice none 0 0] 53 (0, 0)) BK769.out k_ hk, Kd.freshB (g := gb781) (o := .cells #[.int .i64 a0_0, .slice Ao43 y778.length co43, .int .i64 a0_2, .int .i64 (wrap64 ((wrap64 ((wrap64 ((wrap64 ((y772.length : Int) + a0_3)) - 1)) + a1_3)) - 1)), .slice Ao65 x782004_2.length co65] 53 (0, 0)) BK781.out k_ hk⟩) _ (Nat.le_refl _)) (Below.refl _ _) (Nat.le_refl _) (by simp) ?_; (case hd => rfl); (case hg => rfl); (case hr => first | (go_simp; done) | (go_simp; rfl)); (case hp => exact (Reps.one (show Kd.FK (Kd.slice 2 (Kd.int .i64)) _ _ y784 [.slice Ao73 y784.length co73] from (Kd.FK_slice_mk (Kd.R_reads' (Kd.R_mono (ok' := (fun k_ => ((P0_4_ k_ ∨ P1_4_ k_) ∨ w.heap.size ≤ k_) ∧ some k_ ≠ (.slice Ao43 y778.length co43 : Value).ownBlock ∧ some k_ ≠ (.slice Ao65 x782004_2.length co65 : Value).ownBlock ∧ k_ ≠ gb767 ∧ k_ ≠ gb768 ∧ k_ ≠ gb769 ∧ k_ ≠ gb781)) (Kd.R_types (Kd.R_types (Kd.R_types (Kd.R_types (Kd.R_apart' (HO786.out) (Kd.S_typed Oz.out) (by decide)) BK767.out (by decide)) BK768.out (by decide)) BK769.out (by decide)) BK781.out (by decide)) (fun k_ hk => ⟨(.inr (hk.1.1.1.1.1.1)), ⟨hk.1.1.1.1.1.2.2, ⟨hk.1.1.1.1.2, ⟨hk.1.1.1.2, ⟨hk.1.1.2, ⟨hk.1.2, hk.2⟩⟩⟩⟩⟩⟩))).2.1 (Kd.R_F (Kd.R_mono (ok' := (fun k_ => ((P0_4_ k_ ∨ P1_4_ k_) ∨ w.heap.size ≤ k_) ∧ some k_ ≠ (.slice Ao43 y778.length co43 : Value).ownBlock ∧ some k_ ≠ (.slice Ao65 x782004_2.length co65 : Value).ownBlock ∧ k_ ≠ gb767 ∧ k_ ≠ gb768 ∧ k_ ≠ gb769 ∧ k_ ≠ gb781)) (Kd.R_types (Kd.R_types (Kd.R_types (Kd.R_types (Kd.R_apart' (HO786.out) (Kd.S_typed Oz.out) (by decide)) BK767.out (by decide)) BK768.out (by decide)) BK769.out (by decide)) BK781.out (by decide)) (fun k_ hk => ⟨(.inr (hk.1.1.1.1.1.1)), ⟨hk.1.1.1.1.1.2.2, ⟨hk.1.1.1.1.2, ⟨hk.1.1.1.2, ⟨hk.1.1.2, ⟨hk.1.2, hk.2⟩⟩⟩⟩⟩⟩))))) (Reps.one (show Kd.FK (Kd.slice 2 (Kd.int .i64)) _ _ y787 [.slice A67 y787.length c67] from (Kd.FK_slice_mk (Kd.V_reads' (Kd.V_mono (ok' := (fun k_ => ((P0_4_ k_ ∨ P1_4_ k_) ∨ w.heap.size ≤ k_) ∧ some k_ ≠ (.slice Ao43 y778.length co43 : Value).ownBlock ∧ some k_ ≠ (.slice Ao65 x782004_2.length co65 : Value).ownBlock ∧ k_ ≠ gb767 ∧ k_ ≠ gb768 ∧ k_ ≠ gb769 ∧ k_ ≠ gb781)) (HO791.out) (fun k_ hk => ⟨hk.1, ⟨hk.2.2.2.1, ⟨hk.2.2.2.2.1, ⟨hk.2.2.2.2.2.1, ⟨hk.2.2.2.2.2.2.1, ⟨hk.2.2.2.2.2.2.2.1, hk.2.2.2.2.2.2.2.2⟩⟩⟩⟩⟩⟩))).2.1 (Kd.V_F (Kd.V_mono (ok' := (fun k_ => ((P0_4_ k_ ∨ P1_4_ k_) ∨ w.heap.size ≤ k_) ∧ some k_ ≠ (.slice Ao43 y778.length co43 : Value).ownBlock ∧ some k_ ≠ (.slice Ao65 x782004_2.length co65 : Value).ownBlock ∧ k_ ≠ gb767 ∧ k_ ≠ gb768 ∧ k_ ≠ gb769 ∧ k_ ≠ gb781)) (HO791.out) (fun k_ hk => ⟨hk.1, ⟨hk.2.2.2.1, ⟨hk.2.2.2.2.1, ⟨hk.2.2.2.2.2.1, ⟨hk.2.2.2.2.2.2.1, ⟨hk.2.2.2.2.2.2.2.1, hk.2.2.2.2.2.2.2.2⟩⟩⟩⟩⟩⟩))))) (Reps.one (show Kd.FK (Kd.slice 2 (Kd.int .i64)) _ _ y792 [.slice Ao74 y792.length co74] from (Kd.FK_slice_mk (Kd.R_reads' (Kd.R_mono (ok' := (fun k_ => ((P0_4_ k_ ∨ P1_4_ k_) ∨ w.heap.size ≤ k_) ∧ some k_ ≠ (.slice Ao43 y778.length co43 : Value).ownBlock ∧ some k_ ≠ (.slice Ao65 x782004_2.length co65 : Value).ownBlock ∧ k_ ≠ gb767 ∧ k_ ≠ gb768 ∧ k_ ≠ gb769 ∧ k_ ≠ gb781)) (Kd.R_types (Kd.R_types (Kd.R_types (Kd.R_types (Kd.R_apart' (HO794.out) (Kd.S_typed Oz.out) (by decide)) BK767.out (by decide)) BK768.out (by decide)) BK769.out (by decide)) BK781.out (by decide)) (fun k_ hk => ⟨(.inr (hk.1.1.1.1.1.1)), ⟨hk.1.1.1.1.1.2.2, ⟨hk.1.1.1.1.2, ⟨hk.1.1.1.2, ⟨hk.1.1.2, ⟨hk.1.2, hk.2⟩⟩⟩⟩⟩⟩))).2.1 (Kd.R_F (Kd.R_mono (ok' := (fun k_ => ((P0_4_ k_ ∨ P1_4_ k_) ∨ w.heap.size ≤ k_) ∧ some k_ ≠ (.slice Ao43 y778.length co43 : Value).ownBlock ∧ some k_ ≠ (.slice Ao65 x782004_2.length co65 : Value).ownBlock ∧ k_ ≠ gb767 ∧ k_ ≠ gb768 ∧ k_ ≠ gb769 ∧ k_ ≠ gb781)) (Kd.R_types (Kd.R_types (Kd.R_types (Kd.R_types (Kd.R_apart' (HO794.out) (Kd.S_typed Oz.out) (by decide)) BK767.out (by decide)) BK768.out (by decide)) BK769.out (by decide)) BK781.out (by decide)) (fun k_ hk => ⟨(.inr (hk.1.1.1.1.1.1)), ⟨hk.1.1.1.1.1.2.2, ⟨hk.1.1.1.1.2, ⟨hk.1.1.1.2, ⟨hk.1.1.2, ⟨hk.1.2, hk.2⟩⟩⟩⟩⟩⟩))))) (Reps.none _ _)))))
         intro v796 w75 ho76 hb hg_ hnew_
         have HS10_ := (hb.cell (World.block_lt_of_cell? _ _ (hHeld.2.2.2.2.2.2.2.2.2.2))).trans (hHeld.2.2.2.2.2.2.2.2.2.2)
         clear hg_ hnew_
         rw [← Ny795.out] at ho76
         have n0_ := Aside0.mk (Kd.V_elder' HO_72.out (by first | exact Kd.N_base ho76 | exact Kd.N_base (Kd.S_N ho76)) hb)
         have n1_ := Aside0.mk (Kd.V_elder' O8.out (by first | exact Kd.N_base ho76 | exact Kd.N_base (Kd.S_N ho76)) hb)
         have n2_ := Aside0.mk (Kd.V_elder' O9.out (by first | exact Kd.N_base ho76 | exact Kd.N_base (Kd.S_N ho76)) hb)
         have n3_ := Aside0.mk (Kd.R_below Oy.out hb)
         have n4_ := Aside0.mk (Kd.S_elder' Oz.out (by first | exact Kd.N_base ho76 | exact Kd.N_base (Kd.S_N ho76)) hb)
         have n5_ := Aside0.mk (Kd.V_elder' Lz.out (by first | exact Kd.N_base ho76 | exact Kd.N_base (Kd.S_N ho76)) hb)
         have n6_ := Aside0.mk (Kd.V_elder' HO791.out (by first | exact Kd.N_base ho76 | exact Kd.N_base (Kd.S_N ho76)) hb)
         have n7_ := Aside0.mk (Kd.N_lower ho76 (below_size HB.out))
         have n8_ := Aside0.mk (blk_below BK767.out hb)
         have n9_ := Aside0.mk (blk_below BK768.out hb)
         have n10_ := Aside0.mk (blk_below BK769.out hb)
         have n11_ := Aside0.mk (blk_below BK781.out hb)
         have n12_ := Aside0.mk (below_step HB.out hb)
         clear HO_72 O8 O9 Oy Oz Lz HO791 BK767 BK768 BK769 BK781 HB HO786 HO794
         have HO_72 := n0_
         have O8 := n1_
         have O9 := n2_
         have Oy := n3_
         have Oz := n4_
         have Lz := n5_
         have HO791 := n6_
         have HO797 := n7_
         have BK767 := n8_
         have BK768 := n9_
         have BK769 := n10_
         have BK781 := n11_
         have HB := n12_
         clear n0_ n1_ n2_ n3_ n4_ n5_ n6_ n7_ n8_ n9_ n10_ n11_ n12_ hb ho76
         obtain ⟨Ao77, co77, eo77⟩ := Kd.N_slice HO797.out
         subst eo77
         refine hK.out _ _ ⟨(blk_cell BK781.out 0).trans rfl, (blk_cell BK781.out 1).trans rfl, (blk_cell BK781.out 2).trans rfl, (blk_cell BK781.out 3).trans rfl, (blk_cell BK781.out 4).trans rfl, (blk_cell BK768.out 0).trans rfl, (blk_cell BK768.out 1).trans rfl, (blk_cell BK768.out 2).trans rfl, (blk_cell BK768.out 3).trans rfl, (blk_cell BK768.out 4).trans rfl, HS10_⟩ (fun hHeld => ?_)
         clear hK K
         refine norm_ (a' := ?_) ?_ ?_
         rotate_left
         ·show Act.put _ (some 93) _ = _
          simp only [Act.put, List.setIfInBounds_toArray, List.set_cons_zero, List.set_cons_succ, i64_w]
          rfl
         refine one_ (i := 16) (N := some 94) #[Y,Y,Y,Y,Y,Y,Y,Y,Y,Y,Y,Y,Y,Y,Y,Y,Y,Z,Z,Z,Z,Z] rfl rfl (one_of HT_.out (by kernel_rfl)) (by decide) (fun K hK => ?_)
         refine goes_ Try.func108 (by kernel_rfl) rfl #[.slice Ao77 y795.length co77] (by rfl) rfl rfl (by (try simp only [List.map_toArray, List.map_cons, List.map_nil]); first | done | rfl | (simp only [List.length_drop, List.length_take]; rfl)) ?_
         with_reducible refine (slices_Concat_int64_int64.calls k2 _ _ y795 t798 _ ?side1 ?side2 A63.out).mono ?_
         (case side1 => repeat (first | exact (Kd.N_reads' HO797.out).2.2 | (with_reducible refine Kd.C_alloc ?_ _) | (with_reducible refine Kd.C_drewN ?_ _) | (with_reducible refine Kd.C_drew ?_)))
         (case side2 => exact (Kd.N_reads' HO797.out).2.1)
         rintro e w78 ⟨v799, rfl, ho0, hb⟩
         have HS10_ := (hb.cell (World.block_lt_of_cell? _ _ (hHeld.2.2.2.2.2.2.2.2.2.2))).trans (hHeld.2.2.2.2.2.2.2.2.2.2)
         refine ⟨_, rfl, ?_⟩
         have n0_ := Aside0.mk (Kd.V_elder' HO_72.out (Kd.R_base ho0) hb)
         have n1_ := Aside0.mk (Kd.V_elder' O8.out (Kd.R_base ho0) hb)
         have n2_ := Aside0.mk (Kd.V_elder' O9.out (Kd.R_base ho0) hb)
         have n3_ := Aside0.mk (Kd.R_elder' Oy.out (Kd.R_base ho0) hb)
         have n4_ := Aside0.mk (Kd.S_elder' Oz.out (Kd.R_base ho0) hb)
         have n5_ := Aside0.mk (Kd.V_elder' Lz.out (Kd.R_base ho0) hb)
         have n6_ := Aside0.mk (Kd.V_elder' HO791.out (Kd.R_base ho0) hb)
         have n7_ := Aside0.mk (Kd.N_elder' HO797.out (Kd.R_base ho0) hb)
         have n8_ := Aside0.mk (Kd.R_lower (Kd.R_new' (Kd.R_newM (M := fun k_ => (w.heap.size ≤ k_)) ho0 (below_size HB.out) (fun k_ h_ => h_)) (Kd.R_lt Oy.out)) (below_size HB.out))
         have n9_ := Aside0.mk (blk_below BK767.out hb)
         have n10_ := Aside0.mk (blk_below BK768.out hb)
         have n11_ := Aside0.mk (blk_below BK769.out hb)
         have n12_ := Aside0.mk (blk_below BK781.out hb)
         have n13_ := Aside0.mk (below_step HB.out hb)
         clear HO_72 O8 O9 Oy Oz Lz HO791 HO797 BK767 BK768 BK769 BK781 HB
         have HO_72 := n0_
         have O8 := n1_
         have O9 := n2_
         have Oy := n3_
         have Oz := n4_
         have Lz := n5_
         have HO791 := n6_
         have HO797 := n7_
         have HO800 := n8_
         have BK767 := n9_
         have BK768 := n10_
         have BK769 := n11_
         have BK781 := n12_
         have HB := n13_
         clear n0_ n1_ n2_ n3_ n4_ n5_ n6_ n7_ n8_ n9_ n10_ n11_ n12_ n13_
         (try clear hb)
         (try clear hb2)
         (try clear hk)
         (try clear hi)
         (try clear ho0)
         obtain ⟨Ao80, co80, eo80⟩ := Kd.R_slice HO800.out
         subst eo80
         refine hK.out _ _ ⟨(blk_cell BK781.out 0).trans rfl, (blk_cell BK781.out 1).trans rfl, (blk_cell BK781.out 2).trans rfl, (blk_cell BK781.out 3).trans rfl, (blk_cell BK781.out 4).trans rfl, (blk_cell BK768.out 0).trans rfl, (blk_cell BK768.out 1).trans rfl, (blk_cell BK768.out 2).trans rfl, (blk_cell BK768.out 3).trans rfl, (blk_cell BK768.out 4).trans rfl, HS10_⟩ (fun hHeld => ?_)
         clear hK K
         refine norm_ (a' := ?_) ?_ ?_
         rotate_left
         ·show Act.put _ (some 94) _ = _
          simp only [Act.put, List.setIfInBounds_toArray, List.set_cons_zero, List.set_cons_succ, i64_w]
          rfl
         refine one_ (i := 17) (N := some 95) #[Y,Y,Y,Y,Y,Y,Y,Y,Y,Y,Y,Y,Y,Y,Y,Y,Y,Y,Z,Z,Z,Z] rfl rfl (one_of HT_.out (by kernel_rfl)) (by decide) (fun K hK => ?_)
         refine value_ (w1 := ?_) (v := ?_) (by rfl) rfl ?_ ?_
         rotate_left 2
         ·go_simp
          constructor
          ·rfl
          ·rfl
         refine hK.out _ _ ⟨(blk_cell (blk_alloc BK781.out _) 0).trans rfl, (blk_cell (blk_alloc BK781.out _) 1).trans rfl, (blk_cell (blk_alloc BK781.out _) 2).trans rfl, (blk_cell (blk_alloc BK781.out _) 3).trans rfl, (blk_cell (blk_alloc BK781.out _) 4).trans rfl, (blk_cell (blk_alloc BK768.out _) 0).trans rfl, (blk_cell (blk_alloc BK768.out _) 1).trans rfl, (blk_cell (blk_alloc BK768.out _) 2).trans rfl, (blk_cell (blk_alloc BK768.out _) 3).trans rfl, (blk_cell (blk_alloc BK768.out _) 4).trans rfl, (World.cell?_alloc_lt _ _ _ (World.block_lt_of_cell? _ _ (hHeld.2.2.2.2.2.2.2.2.2.2))).trans (hHeld.2.2.2.2.2.2.2.2.2.2)⟩ (fun hHeld => ?_)
         clear hK K
         refine norm_ (a' := ?_) ?_ ?_
         rotate_left
         ·show Act.put _ (some 95) _ = _
          simp only [Act.put, List.setIfInBounds_toArray, List.set_cons_zero, List.set_cons_succ, i64_w]
          rfl
         refine last_ (i := 18) (N := some 96) #[Y,Y,Y,Y,Y,Y,Y,Y,Y,Y,Y,Y,Y,Y,Y,Y,Y,Y,Y,Z,Z,Z] rfl rfl (one_of HT_.out (by kernel_rfl)) (by decide) (fun K hK => ?_)
         refine Kd.S_append_step (Kd.slice 2 (Kd.int .i64)) (w0 := w) w.heap.size (by rfl) (.tmp 80) (.tmp 95) 22 35 (.slice none 0 0) 24 rfl Try.underlying22 info35 rfl (by decide) (by omega) (.slice Ao65 x782004_2.length co65) x782004_2 t798 [.slice Ao80 t798.length co80] (fun k_ => ((P0_4_ k_ ∨ P1_4_ k_) ∨ w.heap.size ≤ k_) ∧ some k_ ≠ (.slice Ao43 y778.length co43 : Value).ownBlock ∧ some k_ ≠ (.slice Ao77 y795.length co77 : Value).ownBlock ∧ k_ ≠ gb767 ∧ k_ ≠ gb768 ∧ k_ ≠ gb769 ∧ k_ ≠ gb781) (fun k_ => some k_ = (.slice Ao80 t798.length co80 : Value).ownBlock) rfl rfl ?aP (fun k_ hk_ => (Kd.R_mono (ok' := (fun k_ => ((fun k_ => ((P0_4_ k_ ∨ P1_4_ k_) ∨ w.heap.size ≤ k_) ∧ some k_ ≠ (.slice Ao43 y778.length co43 : Value).ownBlock ∧ some k_ ≠ (.slice Ao77 y795.length co77 : Value).ownBlock ∧ k_ ≠ gb767 ∧ k_ ≠ gb768 ∧ k_ ≠ gb769 ∧ k_ ≠ gb781)) k_ ∧ some k_ ≠ (.slice Ao65 x782004_2.length co65 : Value).ownBlock)) (Kd.R_types (Kd.R_types (Kd.R_types (Kd.R_types (Kd.R_apart' (Kd.R_apart' (HO800.out) (Kd.N_typed HO797.out) (by decide)) (Kd.S_typed Oz.out) (by decide)) BK767.out (by decide)) BK768.out (by decide)) BK769.out (by decide)) BK781.out (by decide)) (fun k_ hk => ⟨⟨(.inr (hk.1.1.1.1.1.1.1.1)), ⟨hk.1.1.1.1.1.1.2, ⟨hk.1.1.1.1.1.2, ⟨hk.1.1.1.2, ⟨hk.1.1.2, ⟨hk.1.2, hk.2⟩⟩⟩⟩⟩⟩, hk.1.1.1.1.2⟩)).1 k_ hk_.symm) ?aF ?aO ?aB ?aS ?aL ?_
         (case aP => exact Kd.M_row (Kd.R_mono (Kd.R_tight rfl (Kd.R_mono (ok' := (fun k_ => ((fun k_ => ((P0_4_ k_ ∨ P1_4_ k_) ∨ w.heap.size ≤ k_) ∧ some k_ ≠ (.slice Ao43 y778.length co43 : Value).ownBlock ∧ some k_ ≠ (.slice Ao77 y795.length co77 : Value).ownBlock ∧ k_ ≠ gb767 ∧ k_ ≠ gb768 ∧ k_ ≠ gb769 ∧ k_ ≠ gb781)) k_ ∧ some k_ ≠ (.slice Ao65 x782004_2.length co65 : Value).ownBlock)) (Kd.R_types (Kd.R_types (Kd.R_types (Kd.R_types (Kd.R_apart' (Kd.R_apart' (HO800.out) (Kd.N_typed HO797.out) (by decide)) (Kd.S_typed Oz.out) (by decide)) BK767.out (by decide)) BK768.out (by decide)) BK769.out (by decide)) BK781.out (by decide)) (fun k_ hk => ⟨⟨(.inr (hk.1.1.1.1.1.1.1.1)), ⟨hk.1.1.1.1.1.1.2, ⟨hk.1.1.1.1.1.2, ⟨hk.1.1.1.2, ⟨hk.1.1.2, ⟨hk.1.2, hk.2⟩⟩⟩⟩⟩⟩, hk.1.1.1.1.2⟩))) (fun _ h_ => h_)))
         (case aB => exact (by repeat (first | exact HB.out | refine below_set ?_ GE769.out | refine below_set ?_ GE781.out)))
         (case aF => exact (fun k_ hk => ⟨(.inr (Nat.le_trans (below_size HB.out) hk)), Kd.fresh' (Kd.R_lt Oy.out) k_ hk, Kd.fresh' (Kd.N_lt HO797.out) k_ hk, Kd.freshB (g := gb767) (o := .cells #[.int .i64 a0_0, .slice A0_1 l0_1.length c0_1, .int .i64 a0_2, .int .i64 a0_3, .slice (some ad782) l0_4.length c0_4] 53 (0, 0)) BK767.out k_ hk, Kd.freshB (g := gb768) (o := .cells #[.int .i64 a1_0, .slice A1_1 l1_1.length c1_1, .int .i64 a1_2, .int .i64 a1_3, .slice A1_4 l1_4.length c1_4] 53 (0, 0)) BK768.out k_ hk, Kd.freshB (g := gb769) (o := .cells #[.int .i64 0, .slice none 0 0, .int .i64 0, .int .i64 0, .slice none 0 0] 53 (0, 0)) BK769.out k_ hk, Kd.freshB (g := gb781) (o := .cells #[.int .i64 a0_0, .slice Ao43 y778.length co43, .int .i64 a0_2, .int .i64 (wrap64 ((wrap64 ((wrap64 ((wrap64 ((y772.length : Int) + a0_3)) - 1)) + a1_3)) - 1)), .slice Ao65 x782004_2.length co65] 53 (0, 0)) BK781.out k_ hk⟩))
         (case aO => exact (by (with_reducible repeat (first | apply Kd.S_alloc | apply Kd.S_drewN | apply Kd.S_drew)); exact Kd.S_mono Oz.out (fun _ hk => ⟨⟨hk.1.1.1, ⟨hk.1.1.2.2.2.1, ⟨hk.1.2, ⟨hk.1.1.2.2.2.2.1, ⟨hk.1.1.2.2.2.2.2.1, ⟨hk.1.1.2.2.2.2.2.2.1, hk.1.1.2.2.2.2.2.2.2⟩⟩⟩⟩⟩⟩, hk.2⟩)))
         (case aS => exact (below_size HB.out))
         (case aL => have := LMc64.out; omega)
         intro v802 w79 ho hb hg hat
         rw [← Ny801.out] at ho
         have n0_ := Aside0.mk (Kd.V_afterv (ok := (fun k_ => ((P0_4_ k_ ∨ P1_4_ k_) ∨ w.heap.size ≤ k_) ∧ some k_ ≠ (.slice Ao43 y778.length co43 : Value).ownBlock ∧ some k_ ≠ (.slice Ao77 y795.length co77 : Value).ownBlock ∧ some k_ ≠ (.slice Ao80 t798.length co80 : Value).ownBlock ∧ k_ ≠ gb767 ∧ k_ ≠ gb768 ∧ k_ ≠ gb769 ∧ k_ ≠ gb781)) (by (with_reducible repeat (first | apply Kd.V_alloc | apply Kd.V_drewN | apply Kd.V_drew)); exact Kd.V_mono HO_72.out (fun _ hk => ⟨⟨hk.1.1.1, ⟨hk.1.1.2.2.2.1, ⟨hk.1.2, ⟨hk.2, ⟨hk.1.1.2.2.2.2.2.1, ⟨hk.1.1.2.2.2.2.2.2.1, ⟨hk.1.1.2.2.2.2.2.2.2.1, hk.1.1.2.2.2.2.2.2.2.2⟩⟩⟩⟩⟩⟩⟩, hk.1.1.2.2.2.2.1⟩)) hg hat)
         have n1_ := Aside0.mk (Kd.V_afterv (ok := (fun k_ => ((P0_4_ k_ ∨ P1_4_ k_) ∨ w.heap.size ≤ k_) ∧ some k_ ≠ (.slice Ao43 y778.length co43 : Value).ownBlock ∧ some k_ ≠ (.slice Ao77 y795.length co77 : Value).ownBlock ∧ some k_ ≠ (.slice Ao80 t798.length co80 : Value).ownBlock ∧ k_ ≠ gb767 ∧ k_ ≠ gb768 ∧ k_ ≠ gb769 ∧ k_ ≠ gb781)) (by (with_reducible repeat (first | apply Kd.V_alloc | apply Kd.V_drewN | apply Kd.V_drew)); exact Kd.V_mono O8.out (fun _ hk => ⟨⟨hk.1.1.1, ⟨hk.1.1.2.2.2.1, ⟨hk.1.2, ⟨hk.2, ⟨hk.1.1.2.2.2.2.2.1, ⟨hk.1.1.2.2.2.2.2.2.1, ⟨hk.1.1.2.2.2.2.2.2.2.1, hk.1.1.2.2.2.2.2.2.2.2⟩⟩⟩⟩⟩⟩⟩, hk.1.1.2.2.2.2.1⟩)) hg hat)
         have n2_ := Aside0.mk (Kd.V_afterv (ok := (fun k_ => ((P0_4_ k_ ∨ P1_4_ k_) ∨ w.heap.size ≤ k_) ∧ some k_ ≠ (.slice Ao43 y778.length co43 : Value).ownBlock ∧ some k_ ≠ (.slice Ao77 y795.length co77 : Value).ownBlock ∧ some k_ ≠ (.slice Ao80 t798.length co80 : Value).ownBlock ∧ k_ ≠ gb767 ∧ k_ ≠ gb768 ∧ k_ ≠ gb769 ∧ k_ ≠ gb781)) (by (with_reducible repeat (first | apply Kd.V_alloc | apply Kd.V_drewN | apply Kd.V_drew)); exact Kd.V_mono O9.out (fun _ hk => ⟨⟨hk.1.1.1, ⟨hk.1.1.2.2.2.1, ⟨hk.1.2, ⟨hk.2, ⟨hk.1.1.2.2.2.2.2.1, ⟨hk.1.1.2.2.2.2.2.2.1, ⟨hk.1.1.2.2.2.2.2.2.2.1, hk.1.1.2.2.2.2.2.2.2.2⟩⟩⟩⟩⟩⟩⟩, hk.1.1.2.2.2.2.1⟩)) hg hat)
         have n3_ := Aside0.mk (Kd.R_over' Oy.out (Kd.S_typed Oz.out) (by decide) hg)
         have n4_ := Aside0.mk (blk_grown BK767.out hg (Kd.S_ne Oz.out BK767.out (by decide)))
         have n5_ := Aside0.mk (blk_grown BK768.out hg (Kd.S_ne Oz.out BK768.out (by decide)))
         have n6_ := Aside0.mk (blk_grown BK769.out hg (Kd.S_ne Oz.out BK769.out (by decide)))
         have n7_ := Aside0.mk (blk_grown BK781.out hg (Kd.S_ne Oz.out BK781.out (by decide)))
         have n8_ := Aside0.mk (Kd.V_afterv (ok := (fun k_ => ((P0_4_ k_ ∨ P1_4_ k_) ∨ w.heap.size ≤ k_) ∧ some k_ ≠ (.slice Ao43 y778.length co43 : Value).ownBlock ∧ some k_ ≠ (.slice Ao77 y795.length co77 : Value).ownBlock ∧ some k_ ≠ (.slice Ao80 t798.length co80 : Value).ownBlock ∧ k_ ≠ gb767 ∧ k_ ≠ gb768 ∧ k_ ≠ gb769 ∧ k_ ≠ gb781)) (by (with_reducible repeat (first | apply Kd.V_alloc | apply Kd.V_drewN | apply Kd.V_drew)); exact Kd.V_mono Lz.out (fun _ hk => ⟨⟨hk.1.1.1, ⟨hk.1.1.2.2.2.1, ⟨hk.1.2, ⟨hk.2, ⟨hk.1.1.2.2.2.2.2.1, ⟨hk.1.1.2.2.2.2.2.2.1, ⟨hk.1.1.2.2.2.2.2.2.2.1, hk.1.1.2.2.2.2.2.2.2.2⟩⟩⟩⟩⟩⟩⟩, hk.1.1.2.2.2.2.1⟩)) hg hat)
         have n9_ := Aside0.mk (Kd.V_afterv (ok := (fun k_ => ((P0_4_ k_ ∨ P1_4_ k_) ∨ w.heap.size ≤ k_) ∧ some k_ ≠ (.slice Ao43 y778.length co43 : Value).ownBlock ∧ some k_ ≠ (.slice Ao77 y795.length co77 : Value).ownBlock ∧ some k_ ≠ (.slice Ao80 t798.length co80 : Value).ownBlock ∧ k_ ≠ gb767 ∧ k_ ≠ gb768 ∧ k_ ≠ gb769 ∧ k_ ≠ gb781)) (by (with_reducible repeat (first | apply Kd.V_alloc | apply Kd.V_drewN | apply Kd.V_drew)); exact Kd.V_mono HO791.out (fun _ hk => ⟨⟨hk.1.1.1, ⟨hk.1.1.2.2.2.1, ⟨hk.1.2, ⟨hk.2, ⟨hk.1.1.2.2.2.2.2.1, ⟨hk.1.1.2.2.2.2.2.2.1, ⟨hk.1.1.2.2.2.2.2.2.2.1, hk.1.1.2.2.2.2.2.2.2.2⟩⟩⟩⟩⟩⟩⟩, hk.1.1.2.2.2.2.1⟩)) hg hat)
         have n10_ := Aside0.mk (Kd.N_afterv (ok := (fun k_ => ((P0_4_ k_ ∨ P1_4_ k_) ∨ w.heap.size ≤ k_) ∧ some k_ ≠ (.slice Ao43 y778.length co43 : Value).ownBlock ∧ some k_ ≠ (.slice Ao80 t798.length co80 : Value).ownBlock ∧ k_ ≠ gb767 ∧ k_ ≠ gb768 ∧ k_ ≠ gb769 ∧ k_ ≠ gb781)) (by (with_reducible repeat (first | apply Kd.N_alloc | apply Kd.N_drewN | apply Kd.N_drew)); exact Kd.N_mono HO797.out (fun _ hk => ⟨⟨hk.1.1, ⟨hk.1.2.1, ⟨hk.2, ⟨hk.1.2.2.2.1, ⟨hk.1.2.2.2.2.1, ⟨hk.1.2.2.2.2.2.1, hk.1.2.2.2.2.2.2⟩⟩⟩⟩⟩⟩, hk.1.2.2.1⟩)) hg hat)
         have n11_ := Aside0.mk (hb)
         have n12_ := Aside0.mk (ho)
         clear HO_72 O8 O9 Oy BK767 BK768 BK769 BK781 Lz HO791 HO797 HB Oz HO800
         have HO_72 := n0_
         have O8 := n1_
         have O9 := n2_
         have Oy := n3_
         have BK767 := n4_
         have BK768 := n5_
         have BK769 := n6_
         have BK781 := n7_
         have Lz := n8_
         have HO791 := n9_
         have HO797 := n10_
         have HB := n11_
         have HO803 := n12_
         clear n0_ n1_ n2_ n3_ n4_ n5_ n6_ n7_ n8_ n9_ n10_ n11_ n12_ ho hb hg hat
         obtain ⟨Ao81, co81, eo81⟩ := Kd.S_slice HO803.out
         subst eo81
         refine hK.out _ _ ?_
         clear hK K
         refine norm_ (a' := ?_) ?_ ?_
         rotate_left
         ·show Act.put _ (some 96) _ = _
          simp only [Act.put, List.setIfInBounds_toArray, List.set_cons_zero, List.set_cons_succ, i64_w]
          rfl
         refine pure_ (i := 19) (N := some 97) (v := ?_) (a' := ?_) #[Y,Y,Y,Y,Y,Y,Y,Y,Y,Y,Y,Y,Y,Y,Y,Y,Y,Y,Y,Y,Z,Z] rfl rfl (any_of HT_.out (by kernel_rfl)) (fun _ _ _ h => h) (Or.inl ⟨by rfl, ?_⟩) ?_ ?_
         rotate_left
         ·intro w'
          go_simp; with_reducible rfl
         rotate_left
         ·simp only [Act.put, List.setIfInBounds_toArray, List.set_cons_zero, List.set_cons_succ, i64_w]
          rfl
         refine pure_ (i := 20) (N := some 98) (v := ?_) (a' := ?_) #[Y,Y,Y,Y,Y,Y,Y,Y,Y,Y,Y,Y,Y,Y,Y,Y,Y,Y,Y,Y,Y,Z] rfl rfl (any_of HT_.out (by kernel_rfl)) (fun _ _ _ h => h) (Or.inl ⟨by rfl, ?_⟩) ?_ ?_
         rotate_left
         ·intro w'
          go_simp; with_reducible rfl
         rotate_left
         ·simp only [Act.put, List.setIfInBounds_toArray, List.set_cons_zero, List.set_cons_succ, i64_w]
          rfl
         refine last_ (i := 21) (N := none) #[Y,Y,Y,Y,Y,Y,Y,Y,Y,Y,Y,Y,Y,Y,Y,Y,Y,Y,Y,Y,Y,Y] rfl rfl (one_of HT_.out (by kernel_rfl)) (by decide) (fun K hK => ?_)
         have hs82 : w79.cell? ⟨gb781, 4, none⟩ = some (.slice Ao65 x782004_2.length co65) := (blk_cell BK781.out 4).trans rfl
         have hfs82 := blk_frozen BK781.out 4
         have hns82_0 := NB767_781.out
         have hns82_1 := NB768_781.out
         have hns82_2 := NB769_781.out
         have hms82_0 := NB781_767.out
         have hms82_1 := NB781_768.out
         have hms82_2 := NB781_769.out
         refine skip_ (w1 := ?_) (by rfl) rfl ?_ ?_
         rotate_left
         ·go_simp
          rfl
         refine hK.out _ _ ?_
         clear hK K
         refine done_ (done_of HT_.out (by kernel_rfl)) ?_
         try go_wp2
         go_roundg k2
         case measure => have := HJ2.out; have := HK2.out; omega
         case rel => exact ⟨(wrap64 (x74_2 + 1)), (y801), (.slice Ao81 y801.length co81), rfl, H', ⟨by have := HJ2.out; have := HK2.out; omega⟩, ⟨by exact Kd.V_mono (Kd.V_far (p := ⟨gb781, 4, none⟩) (Kd.V_mono HO_72.out (fun k_ hk => (⟨hk, hk.1.2.2.2.2.2.2.2⟩ : _ ∧ k_ ≠ gb781))) (fun _ hk => hk.2) (.slice Ao81 y801.length co81)) (fun _ hk => ⟨hk.1.1.1, ⟨hk.1.1.2.1, ⟨hk.1.2, ⟨hk.1.1.2.2.2.2.1, ⟨hk.1.1.2.2.2.2.2.1, ⟨hk.1.1.2.2.2.2.2.2.1, hk.1.1.2.2.2.2.2.2.2⟩⟩⟩⟩⟩⟩)⟩, ⟨by exact Kd.V_mono (Kd.V_far (p := ⟨gb781, 4, none⟩) (Kd.V_mono O8.out (fun k_ hk => (⟨hk, hk.1.2.2.2.2.2.2.2⟩ : _ ∧ k_ ≠ gb781))) (fun _ hk => hk.2) (.slice Ao81 y801.length co81)) (fun _ hk => ⟨hk.1.1.1, ⟨hk.1.1.2.1, ⟨hk.1.2, ⟨hk.1.1.2.2.2.2.1, ⟨hk.1.1.2.2.2.2.2.1, ⟨hk.1.1.2.2.2.2.2.2.1, hk.1.1.2.2.2.2.2.2.2⟩⟩⟩⟩⟩⟩)⟩, ⟨by exact Kd.V_mono (Kd.V_far (p := ⟨gb781, 4, none⟩) (Kd.V_mono O9.out (fun k_ hk => (⟨hk, hk.1.2.2.2.2.2.2.2⟩ : _ ∧ k_ ≠ gb781))) (fun _ hk => hk.2) (.slice Ao81 y801.length co81)) (fun _ hk => ⟨hk.1.1.1, ⟨hk.1.1.2.1, ⟨hk.1.2, ⟨hk.1.1.2.2.2.2.1, ⟨hk.1.1.2.2.2.2.2.1, ⟨hk.1.1.2.2.2.2.2.2.1, hk.1.1.2.2.2.2.2.2.2⟩⟩⟩⟩⟩⟩)⟩, ⟨by exact Kd.R_mono (Kd.R_far (p := ⟨gb781, 4, none⟩) (Kd.R_types Oy.out BK781.out (by decide)) (fun _ hk => hk.2) (.slice Ao81 y801.length co81)) (fun _ hk => hk.1.1.1)⟩, ⟨by exact Kd.S_mono (Kd.S_far (p := ⟨gb781, 4, none⟩) (Kd.S_mono HO803.out (fun k_ hk => (⟨hk, hk.2.2.2.2.2.2⟩ : _ ∧ k_ ≠ gb781))) (fun _ hk => hk.2) (.slice Ao81 y801.length co81)) (fun _ hk => ⟨hk.1.1, ⟨hk.1.2.1, ⟨hk.1.2.2.2.1, ⟨hk.1.2.2.2.2.1, ⟨hk.1.2.2.2.2.2.1, hk.1.2.2.2.2.2.2⟩⟩⟩⟩⟩)⟩, ⟨by (with_reducible repeat (first | refine blk_drewN ?_ _ | refine blk_drew ?_ | refine blk_alloc ?_ _)); refine blk_far ?_ NB767_781.out _; (with_reducible repeat (first | refine blk_drewN ?_ _ | refine blk_drew ?_ | refine blk_alloc ?_ _)); exact BK767.out⟩, ⟨by (with_reducible repeat (first | refine blk_drewN ?_ _ | refine blk_drew ?_ | refine blk_alloc ?_ _)); refine blk_far ?_ NB768_781.out _; (with_reducible repeat (first | refine blk_drewN ?_ _ | refine blk_drew ?_ | refine blk_alloc ?_ _)); exact BK768.out⟩, ⟨by (with_reducible repeat (first | refine blk_drewN ?_ _ | refine blk_drew ?_ | refine blk_alloc ?_ _)); refine blk_far ?_ NB769_781.out _; (with_reducible repeat (first | refine blk_drewN ?_ _ | refine blk_drew ?_ | refine blk_alloc ?_ _)); exact BK769.out⟩, ⟨by (with_reducible repeat (first | refine blk_drewN ?_ _ | refine blk_drew ?_ | refine blk_alloc ?_ _)); refine blk_put (cs := #[.int .i64 a0_0, .slice Ao43 y778.length co43, .int .i64 a0_2, .int .i64 (wrap64 ((wrap64 ((wrap64 ((wrap64 ((y772.length : Int) + a0_3)) - 1)) + a1_3)) - 1)), .slice Ao65 x782004_2.length co65]) ?_ 4 _ rfl; (with_reducible repeat (first | refine blk_drewN ?_ _ | refine blk_drew ?_ | refine blk_alloc ?_ _)); exact BK781.out⟩, ⟨by repeat (first | exact HB.out | refine below_set ?_ GE769.out | refine below_set ?_ GE781.out)⟩⟩
        ·rw [if_neg c55] at H
         have c55b0 : decide (x74_2 < (l0_4.length : Int)) = false := decide_eq_false c55
         clear c55
         have H' := Aside0.mk H
         clear H
         have hnb83 := NB768_767.out
         have hnc83 := NB767_768.out
         have hnb84 := NB768_769.out
         have hnc84 := NB769_768.out
         have hnb85 := NB768_781.out
         have hnc85 := NB781_768.out
         obtain ⟨hcz86_0, hcz86_1, hcz86_2, hcz86_3, hcz86_4, hfz86_0, hfz86_1, hfz86_2, hfz86_3, hfz86_4⟩ := box5 BK768.out
         go_wp2
         go_loopg [104] k2 (fun kq v104 w' => ∃ (x104_3 : Int) (x782004_3 : List (List Int)) (u782004 : Value), v104 = .int .i64 x104_3 ∧ Aside0 (impl_joined.l1 kq l1_4 (l1_4.length : Int) x104_3 a0_0 l0_1 a0_2 a0_3 l0_4 a0_0 y778 a0_2 (wrap64 ((wrap64 ((wrap64 ((wrap64 ((y772.length : Int) + a0_3)) - 1)) + a1_3)) - 1)) x782004_3 = some (r1, r2, r3, r4, r5, r6)) ∧ Aside0 (kq ≤ k2) ∧ Aside0 (Kd.V (Kd.slice 2 (Kd.int .i64)) 35 w' w.heap.size (fun k_ => ((P0_4_ k_ ∨ P1_4_ k_) ∨ w.heap.size ≤ k_) ∧ some k_ ≠ ((.slice Ao43 y778.length co43) : Value).ownBlock ∧ some k_ ≠ (u782004 : Value).ownBlock ∧ k_ ≠ gb767 ∧ k_ ≠ gb768 ∧ k_ ≠ gb769 ∧ k_ ≠ gb781) (.slice A1_4 l1_4.length c1_4) l1_4) ∧ Aside0 (Kd.V (Kd.slice 2 (Kd.int .i64)) 35 w' w.heap.size (fun k_ => ((P0_4_ k_ ∨ P1_4_ k_) ∨ w.heap.size ≤ k_) ∧ some k_ ≠ ((.slice Ao43 y778.length co43) : Value).ownBlock ∧ some k_ ≠ (u782004 : Value).ownBlock ∧ k_ ≠ gb767 ∧ k_ ≠ gb768 ∧ k_ ≠ gb769 ∧ k_ ≠ gb781) (.slice A0_4 l0_4.length c0_4) l0_4) ∧ Aside0 (Kd.V (Kd.slice 2 (Kd.int .i64)) 35 w' w.heap.size (fun k_ => ((P0_4_ k_ ∨ P1_4_ k_) ∨ w.heap.size ≤ k_) ∧ some k_ ≠ ((.slice Ao43 y778.length co43) : Value).ownBlock ∧ some k_ ≠ (u782004 : Value).ownBlock ∧ k_ ≠ gb767 ∧ k_ ≠ gb768 ∧ k_ ≠ gb769 ∧ k_ ≠ gb781) (.slice A1_4 l1_4.length c1_4) l1_4) ∧ Aside0 (Kd.R (Kd.int .i64) 2 w' w.heap.size (fun k_ => (w.heap.size ≤ k_)) (.slice Ao43 y778.length co43) y778) ∧ Aside0 (Kd.S (Kd.slice 2 (Kd.int .i64)) 35 w' w.heap.size (fun k_ => ((P0_4_ k_ ∨ P1_4_ k_) ∨ w.heap.size ≤ k_) ∧ some k_ ≠ ((.slice Ao43 y778.length co43) : Value).ownBlock ∧ k_ ≠ gb767 ∧ k_ ≠ gb768 ∧ k_ ≠ gb769 ∧ k_ ≠ gb781) u782004 x782004_3) ∧ Aside0 (w'.heap[gb767]? = some (.cells #[.int .i64 a0_0, (.slice A0_1 l0_1.length c0_1), .int .i64 a0_2, .int .i64 a0_3, (.slice A0_4 l0_4.length c0_4)] 53 (0, 0))) ∧ Aside0 (w'.heap[gb768]? = some (.cells #[.int .i64 a1_0, (.slice A1_1 l1_1.length c1_1), .int .i64 a1_2, .int .i64 a1_3, (.slice A1_4 l1_4.length c1_4)] 53 (0, 0))) ∧ Aside0 (w'.heap[gb769]? = some (.cells #[.int .i64 0, (.slice none 0 0), .int .i64 0, .int .i64 0, (.slice none 0 0)] 53 (0, 0))) ∧ Aside0 (w'.heap[gb781]? = some (.cells #[.int .i64 a0_0, (.slice Ao43 y778.length co43), .int .i64 a0_2, .int .i64 (wrap64 ((wrap64 ((wrap64 ((wrap64 ((y772.length : Int) + a0_3)) - 1)) + a1_3)) - 1)), u782004] 53 (0, 0))) ∧ Aside0 (Below w.heap.size w w'))
         case atStart => exact ⟨(0), (x782004_2), (u782004), rfl, H', ⟨Nat.le_refl _⟩, ⟨by (with_reducible repeat (first | apply Kd.V_alloc | apply Kd.V_drewN | apply Kd.V_drew)); exact O9.out⟩, ⟨by (with_reducible repeat (first | apply Kd.V_alloc | apply Kd.V_drewN | apply Kd.V_drew)); exact O8.out⟩, ⟨by (with_reducible repeat (first | apply Kd.V_alloc | apply Kd.V_drewN | apply Kd.V_drew)); exact O9.out⟩, ⟨by (with_reducible repeat (first | apply Kd.R_alloc | apply Kd.R_drewN | apply Kd.R_drew)); exact Oy.out⟩, ⟨by (with_reducible repeat (first | apply Kd.S_alloc | apply Kd.S_drewN | apply Kd.S_drew)); exact Oz.out⟩, ⟨by (with_reducible repeat (first | refine blk_drewN ?_ _ | refine blk_drew ?_ | refine blk_alloc ?_ _)); exact BK767.out⟩, ⟨by (with_reducible repeat (first | refine blk_drewN ?_ _ | refine blk_drew ?_ | refine blk_alloc ?_ _)); exact BK768.out⟩, ⟨by (with_reducible repeat (first | refine blk_drewN ?_ _ | refine blk_drew ?_ | refine blk_alloc ?_ _)); exact BK769.out⟩, ⟨by (with_reducible repeat (first | refine blk_drewN ?_ _ | refine blk_drew ?_ | refine blk_alloc ?_ _)); exact BK781.out⟩, ⟨by repeat (first | (with_reducible first | exact HB.out | apply below_alloc | apply pw_below_drewN | apply below_drew1 | refine below_set ?_ GE767.out | refine below_set ?_ GE768.out | refine below_set ?_ GE769.out | refine below_set ?_ GE781.out) | exact HB.out)⟩⟩
         case round =>
          clear H'
          try clear c1
          try clear p2
          try clear c5
          try clear c6
          try clear p6
          try clear c7
          try clear c8
          try clear c10
          try clear c55
          try clear c55b0
          try clear c56
          try clear c57
          try clear c58
          try clear c59
          try clear c61
          try clear c62
          try clear c64
          try clear p64
          try clear c67
          try clear c78
          try clear c83
          try clear c84
          try clear c85
          try clear hcz86_0
          try clear hcz86_1
          try clear hcz86_2
          try clear hcz86_3
          try clear hcz86_4
          try clear hfz86_0
          try clear hfz86_1
          try clear hfz86_2
          try clear hfz86_3
          try clear hfz86_4
          obtain ⟨x104_3, x782004_3, u782004, rfl, HA, HK3, HO_102, O8, O9, Oy, Oz, BK767, BK768, BK769, BK781, HB⟩ := hrel
          cases gk with
          | zero => exact absurd HA.out (by simp [impl_joined.l1])
          | succ k3 =>
           have H := HA.out
           clear HA
           simp only [impl_joined.l1] at H
           by_cases c87 : x104_3 < (l1_4.length : Int)
           ·rw [if_pos c87] at H
            have c87b0 : decide (x104_3 < (l1_4.length : Int)) = true := decide_eq_true c87
            clear c87
            by_cases c88 : 0 ≤ x104_3
            case neg => rw [if_neg c88] at H; exact absurd H (by simp)
            rw [if_pos c88] at H
            have c88b0 : decide (0 ≤ x104_3) = true := decide_eq_true c88
            clear c88
            by_cases c89 : x104_3 < (l1_4.length : Int)
            case neg => rw [if_neg c89] at H; exact absurd H (by simp)
            rw [if_pos c89] at H
            have c89b0 : decide (x104_3 < (l1_4.length : Int)) = true := decide_eq_true c89
            clear c89
            by_cases c90 : 0 < ((rd_L1 l1_4 x104_3).length : Int)
            case neg => rw [if_neg c90] at H; exact absurd H (by simp)
            rw [if_pos c90] at H
            have c90b0 : decide (0 < ((rd_L1 l1_4 x104_3).length : Int)) = true := decide_eq_true c90
            have c90b1 : decide (0 < (rd_L1 l1_4 x104_3).length) = true := decide_eq_true (by omega)
            clear c90
            obtain ⟨y806, hy806⟩ : ∃ y_ : List Int, y_ = (([rd (rd_L1 l1_4 x104_3) 0] : List Int)) := ⟨_, rfl⟩
            replace H : (if 0 ≤ (wrap64 (a0_3 - 1)) then (if (wrap64 (a0_3 - 1) : Int).toNat ≤ 35184372088832 then (if 1 ≤ ((rd_L1 l1_4 x104_3).length : Int) then ((slices_Concat_int64_int64.f k3 (([y806, (List.replicate (wrap64 (a0_3 - 1) : Int).toNat 0), ((rd_L1 l1_4 x104_3).drop 1)] : List (List Int)))).bind fun t820 => (if x782004_3.length < 5864062014805 then (impl_joined.l1 k3 l1_4 (l1_4.length : Int) (wrap64 (x104_3 + 1)) a0_0 l0_1 a0_2 a0_3 l0_4 a0_0 y778 a0_2 (wrap64 ((wrap64 ((wrap64 ((wrap64 ((y772.length : Int) + a0_3)) - 1)) + a1_3)) - 1)) (x782004_3 ++ [t820])) else (none))) else (none)) else (none)) else (none)) = some (r1, r2, r3, r4, r5, r6) := by first | (rw [hy806]; with_reducible exact H) | (have H2_ := (Option.bind_some _ _).symm.trans H; rw [hy806]; with_reducible exact H2_) | (have H2_ := (Option.bind_some _ _).symm.trans H; with_reducible exact H2_) | with_reducible exact H | (rw [hy806]; exact H) | exact H
            have Ny806 := Aside0.mk hy806
            clear hy806
            obtain ⟨ji91, hji91⟩ : ∃ j_ : Int, (wrap64 (a0_3 - 1)) = j_ := ⟨_, rfl⟩
            replace H : (if 0 ≤ (ji91) then (if (ji91 : Int).toNat ≤ 35184372088832 then (if 1 ≤ ((rd_L1 l1_4 x104_3).length : Int) then ((slices_Concat_int64_int64.f k3 (([y806, (List.replicate (ji91 : Int).toNat 0), ((rd_L1 l1_4 x104_3).drop 1)] : List (List Int)))).bind fun t820 => (if x782004_3.length < 5864062014805 then (impl_joined.l1 k3 l1_4 (l1_4.length : Int) (wrap64 (x104_3 + 1)) a0_0 l0_1 a0_2 a0_3 l0_4 a0_0 y778 a0_2 (wrap64 ((wrap64 ((wrap64 ((wrap64 ((y772.length : Int) + a0_3)) - 1)) + a1_3)) - 1)) (x782004_3 ++ [t820])) else (none))) else (none)) else (none)) else (none)) = some (r1, r2, r3, r4, r5, r6) := by first | (rw [hji91] at H; exact H) | (simp only [hji91] at H ⊢; exact H)
            have hji91w : (IntKind.i64.wrap (a0_3 - 1)) = ji91 := (i64_w _).trans hji91
            by_cases c92 : 0 ≤ (ji91)
            case neg => rw [if_neg c92] at H; exact absurd H (by simp)
            rw [if_pos c92] at H
            have c92b0 := eq_true c92
            have c92b1 : decide (0 ≤ (ji91)) = true := decide_eq_true c92
            clear c92
            by_cases c93 : (ji91 : Int).toNat ≤ 35184372088832
            case neg => rw [if_neg c93] at H; exact absurd H (by simp)
            rw [if_pos c93] at H
            have c93b0 := eq_true c93
            have c93b1 : decide ((ji91 : Int).toNat ≤ 35184372088832) = true := decide_eq_true c93
            clear c93
            obtain ⟨y809, hy809⟩ : ∃ y_ : List Int, y_ = (List.replicate (ji91 : Int).toNat 0) := ⟨_, rfl⟩
            replace H : (if 1 ≤ ((rd_L1 l1_4 x104_3).length : Int) then ((slices_Concat_int64_int64.f k3 (([y806, y809, ((rd_L1 l1_4 x104_3).drop 1)] : List (List Int)))).bind fun t820 => (if x782004_3.length < 5864062014805 then (impl_joined.l1 k3 l1_4 (l1_4.length : Int) (wrap64 (x104_3 + 1)) a0_0 l0_1 a0_2 a0_3 l0_4 a0_0 y778 a0_2 (wrap64 ((wrap64 ((wrap64 ((wrap64 ((y772.length : Int) + a0_3)) - 1)) + a1_3)) - 1)) (x782004_3 ++ [t820])) else (none))) else (none)) = some (r1, r2, r3, r4, r5, r6) := by first | (rw [hy809]; with_reducible exact H) | (have H2_ := (Option.bind_some _ _).symm.trans H; rw [hy809]; with_reducible exact H2_) | (have H2_ := (Option.bind_some _ _).symm.trans H; with_reducible exact H2_) | with_reducible exact H | (rw [hy809]; exact H) | exact H
            have Ny809 := Aside0.mk hy809
            clear hy809
            by_cases c94 : 1 ≤ ((rd_L1 l1_4 x104_3).length : Int)
            case neg => rw [if_neg c94] at H; exact absurd H (by simp)
            rw [if_pos c94] at H
            have c94b0 := eq_true c94
            have c94b1 : decide (1 ≤ ((rd_L1 l1_4 x104_3).length : Int)) = true := decide_eq_true c94
            clear c94
            obtain ⟨y812, hy812⟩ : ∃ y_ : List Int, y_ = ((rd_L1 l1_4 x104_3).drop 1) := ⟨_, rfl⟩
            replace H : ((slices_Concat_int64_int64.f k3 (([y806, y809, y812] : List (List Int)))).bind fun t820 => (if x782004_3.length < 5864062014805 then (impl_joined.l1 k3 l1_4 (l1_4.length : Int) (wrap64 (x104_3 + 1)) a0_0 l0_1 a0_2 a0_3 l0_4 a0_0 y778 a0_2 (wrap64 ((wrap64 ((wrap64 ((wrap64 ((y772.length : Int) + a0_3)) - 1)) + a1_3)) - 1)) (x782004_3 ++ [t820])) else (none))) = some (r1, r2, r3, r4, r5, r6) := by first | (rw [hy812]; with_reducible exact H) | (have H2_ := (Option.bind_some _ _).symm.trans H; rw [hy812]; with_reducible exact H2_) | (have H2_ := (Option.bind_some _ _).symm.trans H; with_reducible exact H2_) | with_reducible exact H | (rw [hy812]; exact H) | exact H
            have Ny812 := Aside0.mk hy812
            clear hy812
            obtain ⟨y817, hy817⟩ : ∃ y_ : List (List Int), y_ = (([y806, y809, y812] : List (List Int))) := ⟨_, rfl⟩
            replace H : ((slices_Concat_int64_int64.f k3 y817).bind fun t820 => (if x782004_3.length < 5864062014805 then (impl_joined.l1 k3 l1_4 (l1_4.length : Int) (wrap64 (x104_3 + 1)) a0_0 l0_1 a0_2 a0_3 l0_4 a0_0 y778 a0_2 (wrap64 ((wrap64 ((wrap64 ((wrap64 ((y772.length : Int) + a0_3)) - 1)) + a1_3)) - 1)) (x782004_3 ++ [t820])) else (none))) = some (r1, r2, r3, r4, r5, r6) := by first | (rw [hy817]; with_reducible exact H) | (have H2_ := (Option.bind_some _ _).symm.trans H; rw [hy817]; with_reducible exact H2_) | (have H2_ := (Option.bind_some _ _).symm.trans H; with_reducible exact H2_) | with_reducible exact H | (rw [hy817]; exact H) | exact H
            have Ny817 := Aside0.mk hy817
            clear hy817
            replace H := Option.bind_eq_some_iff.mp H
            obtain ⟨t820, A950, H⟩ := H
            replace H : (if x782004_3.length < 5864062014805 then (impl_joined.l1 k3 l1_4 (l1_4.length : Int) (wrap64 (x104_3 + 1)) a0_0 l0_1 a0_2 a0_3 l0_4 a0_0 y778 a0_2 (wrap64 ((wrap64 ((wrap64 ((wrap64 ((y772.length : Int) + a0_3)) - 1)) + a1_3)) - 1)) (x782004_3 ++ [t820])) else (none)) = some (r1, r2, r3, r4, r5, r6) := H
            have A95 := Aside0.mk A950
            clear A950
            by_cases c96 : x782004_3.length < 5864062014805
            case neg => rw [if_neg c96] at H; exact absurd H (by simp)
            rw [if_pos c96] at H
            have LMc96 := Aside0.mk c96
            clear c96
            obtain ⟨y823, hy823⟩ : ∃ y_ : List (List Int), y_ = (x782004_3 ++ [t820]) := ⟨_, rfl⟩
            replace H : (impl_joined.l1 k3 l1_4 (l1_4.length : Int) (wrap64 (x104_3 + 1)) a0_0 l0_1 a0_2 a0_3 l0_4 a0_0 y778 a0_2 (wrap64 ((wrap64 ((wrap64 ((wrap64 ((y772.length : Int) + a0_3)) - 1)) + a1_3)) - 1)) y823) = some (r1, r2, r3, r4, r5, r6) := by first | (rw [hy823]; with_reducible exact H) | (have H2_ := (Option.bind_some _ _).symm.trans H; rw [hy823]; with_reducible exact H2_) | (have H2_ := (Option.bind_some _ _).symm.trans H; with_reducible exact H2_) | with_reducible exact H | (rw [hy823]; exact H) | exact H
            have Ny823 := Aside0.mk hy823
            clear hy823
            have H' := Aside0.mk H
            clear H
            have p804 : 0 ≤ (x104_3 : Int) := of_decide_eq_true (by first | (with_reducible assumption) | assumption)
            have q804 : x104_3 < (l1_4.length : Int) := of_decide_eq_true (by first | (with_reducible assumption) | assumption)
            obtain ⟨ad804, A804_0, c804_0, e804, hx804_0, hl804_0, hi804_0⟩ := at_L1 (Kd.V_reads' HO_102.out).2.2 x104_3 p804 q804
            cases e804
            obtain ⟨ce804, hce804, hMe804, hcc804⟩ := Kd.V_get HO_102.out [] x104_3 p804 (by first | exact q804 | exact of_decide_eq_true (by first | (with_reducible assumption) | assumption) | (have e_ := (Kd.V_reads' HO_102.out).1; omega))
            obtain ⟨ua804_0, uc804_0, rfl, ul804_0, ge804_0⟩ := Kd.FK_slice_open hMe804
            have hv804_0 := hcc804 0 _ rfl
            rw [Nat.add_zero, show ((Kd.slice 2 (Kd.int .i64))).sz = 1 from rfl, Nat.mul_one] at hv804_0
            replace hv804_0 := Option.some.inj (hv804_0.symm.trans hx804_0)
            injection hv804_0 with hva_ hvn_ hvc_
            rw [hva_] at ge804_0
            rw [hvc_] at ul804_0
            have HL804_0 := Aside0.mk (show Kd.V (Kd.int .i64) 2 _ w.heap.size _ _ (rd_L1 l1_4 x104_3) from Kd.V_mk ul804_0 ge804_0)
            clear hva_ hvn_ hvc_ ge804_0 ul804_0 hcc804 hce804
            have HR804_0 := Aside0.mk hi804_0
            have HC804_0 := Aside0.mk hl804_0
            clear hi804_0 hl804_0
            replace p804 := eq_true p804
            replace q804 := eq_true q804
            obtain ⟨Ao97, co97, eo97⟩ := Kd.S_slice Oz.out
            subst eo97
            try go_wp2
            have n0_ := Aside0.mk (Kd.V_drew HO_102.out)
            have n1_ := Aside0.mk (Kd.V_drew O8.out)
            have n2_ := Aside0.mk (Kd.V_drew O9.out)
            have n3_ := Aside0.mk (Kd.R_drew Oy.out)
            have n4_ := Aside0.mk (Kd.S_drew Oz.out)
            have n5_ := Aside0.mk (Kd.V_drew HL804_0.out)
            have n6_ := Aside0.mk (blk_drew BK767.out)
            have n7_ := Aside0.mk (blk_drew BK768.out)
            have n8_ := Aside0.mk (blk_drew BK769.out)
            have n9_ := Aside0.mk (blk_drew BK781.out)
            have n10_ := Aside0.mk (Kd.C_drew HR804_0.out)
            have n11_ := Aside0.mk (below_drew1 HB.out)
            clear HO_102 O8 O9 Oy Oz HL804_0 BK767 BK768 BK769 BK781 HR804_0 HB
            have HO_102 := n0_
            have O8 := n1_
            have O9 := n2_
            have Oy := n3_
            have Oz := n4_
            have HL804_0 := n5_
            have BK767 := n6_
            have BK768 := n7_
            have BK769 := n8_
            have BK781 := n9_
            have HR804_0 := n10_
            have HB := n11_
            clear n0_ n1_ n2_ n3_ n4_ n5_ n6_ n7_ n8_ n9_ n10_ n11_
            have p805 : 0 ≤ (0 : Int) := (by omega)
            have q805 : 0 < ((rd_L1 l1_4 x104_3).length : Int) := of_decide_eq_true (by first | (with_reducible assumption) | assumption)
            obtain ⟨ad805, e805, hx805_0⟩ := Kd.at_int (by repeat (first | (with_reducible exact HR804_0.out) | (with_reducible refine Kd.C_alloc ?_ _) | (with_reducible refine Kd.C_drewN ?_ _) | (with_reducible refine Kd.C_drew ?_) | exact HR804_0.out)) 0 p805 q805
            cases e805
            have qi805 : (0 < (rd_L1 l1_4 x104_3).length) = True := eq_true (by omega)
            (try rw [show ((0 : Int)).toNat = 0 from rfl] at hx805_0)
            (try rw [Addr.add_zero'] at hx805_0)
            replace p805 := eq_true p805
            replace q805 := eq_true q805
            have q99 : (1 : Int) ≤ (((rd_L1 l1_4 x104_3).length : Int) : Int) := of_decide_eq_true (by first | (with_reducible assumption) | assumption)
            obtain ⟨i099, hi099, _, hsz99, _⟩ := info_parts info2
            have hroom99 : (rd_L1 l1_4 x104_3).length ≤ c804_0 := HC804_0.out
            have hC99 : Kd.F (Kd.int .i64) _ _ (some ad805) (rd_L1 l1_4 x104_3).length (rd_L1 l1_4 x104_3) := (Kd.V_at (base := w.heap.size) HL804_0.out).2.2
            have hcut99 := cut_from (P := Try.prog) 35 2 .i64 Try.underlying35 hi099 1 hsz99 (some ad805) (rd_L1 l1_4 x104_3).length c804_0 1 (by omega) q99
            have hr99 := Kd.F_cut (m := (1 : Int).toNat) (c := c804_0) hC99 (by omega) hroom99
            obtain ⟨A99, hA99⟩ : ∃ A1, A1 = (if c804_0 = (1 : Int).toNat then (some ad805) else ((some ad805) : Option Addr).map (·.add ((1 : Int).toNat * 1))) := ⟨_, rfl⟩
            obtain ⟨c99, hc99⟩ : ∃ c1, c1 = c804_0 - (1 : Int).toNat := ⟨_, rfl⟩
            have hy99 : y812.length = (rd_L1 l1_4 x104_3).length - (1 : Int).toNat := (by rw [Ny812.out, List.length_drop] <;> omega)
            rw [show (rd_L1 l1_4 x104_3).drop (1 : Int).toNat = y812 from Ny812.out.symm] at hr99
            replace hr99 : Kd.F (Kd.int .i64) _ _ A99 y812.length y812 := (by rw [hA99]; exact hr99)
            rw [← hy99, ← hA99, ← hc99] at hcut99
            have HO816 := Aside0.mk (show Kd.V (Kd.int .i64) 2 _ w.heap.size _ (.slice A99 y812.length c99) y812 from Kd.V_mk (by rw [hy99, hc99]; exact Nat.sub_le_sub_right hroom99 _) hr99)
            have HC816 := Aside0.mk (show y812.length ≤ c99 from by rw [hy99, hc99]; exact Nat.sub_le_sub_right hroom99 _)
            clear hr99 hC99 hroom99 hi099 hsz99 hc99
            have KY99 := Aside0.mk hy99
            have KA99 := Aside0.mk hA99
            clear hy99 hA99
            replace q99 := eq_true q99
            refine start_ (n := 22) (S := fun w' => w'.cell? ⟨gb781, 0, none⟩ = some (.int .i64 a0_0) ∧ w'.cell? ⟨gb781, 1, none⟩ = some (.slice Ao43 y778.length co43) ∧ w'.cell? ⟨gb781, 2, none⟩ = some (.int .i64 a0_2) ∧ w'.cell? ⟨gb781, 3, none⟩ = some (.int .i64 (wrap64 ((wrap64 ((wrap64 ((wrap64 ((y772.length : Int) + a0_3)) - 1)) + a1_3)) - 1))) ∧ w'.cell? ⟨gb781, 4, none⟩ = some (.slice Ao97 x782004_3.length co97) ∧ w'.cell? ⟨gb767, 0, none⟩ = some (.int .i64 a0_0) ∧ w'.cell? ⟨gb767, 1, none⟩ = some (.slice A0_1 l0_1.length c0_1) ∧ w'.cell? ⟨gb767, 2, none⟩ = some (.int .i64 a0_2) ∧ w'.cell? ⟨gb767, 3, none⟩ = some (.int .i64 a0_3) ∧ w'.cell? ⟨gb767, 4, none⟩ = some (.slice A0_4 l0_4.length c0_4) ∧ w'.cell? ad805 = some (.int .i64 (rd (rd_L1 l1_4 x104_3) 0))) (ds := [18, 21]) #[Z,Z,Z,Z,Z,Z,Z,Z,Z,Z,Z,Z,Z,Z,Z,Z,Z,Z,Z,Z,Z,Z] (by kernel_rfl) rfl rfl ⟨(blk_cell BK781.out 0).trans rfl, (blk_cell BK781.out 1).trans rfl, (blk_cell BK781.out 2).trans rfl, (blk_cell BK781.out 3).trans rfl, (blk_cell BK781.out 4).trans rfl, (blk_cell BK767.out 0).trans rfl, (blk_cell BK767.out 1).trans rfl, (blk_cell BK767.out 2).trans rfl, (blk_cell BK767.out 3).trans rfl, (blk_cell BK767.out 4).trans rfl, hx805_0⟩ (fun hHeld => ?_); refine with_tabW impl_joined.tab16 impl_joined.bits16 (fun HT_ HW_ => ?_)
            generalize wr.drew = w98 at HO_102 O8 O9 Oy Oz HL804_0 BK767 BK768 BK769 BK781 HR804_0 HB HO816 hx805_0 hHeld ⊢
            refine pure_ (i := 0) (N := some 108) (v := ?_) (a' := ?_) #[Y,Z,Z,Z,Z,Z,Z,Z,Z,Z,Z,Z,Z,Z,Z,Z,Z,Z,Z,Z,Z,Z] rfl rfl (any_of HT_.out (by kernel_rfl)) (fun _ _ _ h => h) (Or.inl ⟨by rfl, ?_⟩) ?_ ?_
            rotate_left
            ·intro w'
             go_simp; with_reducible rfl
            rotate_left
            ·simp only [Act.put, List.setIfInBounds_toArray, List.set_cons_zero, List.set_cons_succ, i64_w]
             rfl
            refine pure_ (i := 1) (N := some 109) (v := ?_) (a' := ?_) #[Y,Y,Z,Z,Z,Z,Z,Z,Z,Z,Z,Z,Z,Z,Z,Z,Z,Z,Z,Z,Z,Z] rfl rfl (any_of HT_.out (by kernel_rfl)) (fun _ _ _ h => h) (Or.inl ⟨by rfl, ?_⟩) ?_ ?_
            rotate_left
            ·intro w'
             go_simp; with_reducible rfl
            rotate_left
            ·simp only [Act.put, List.setIfInBounds_toArray, List.set_cons_zero, List.set_cons_succ, i64_w]
             rfl
            refine pure_ (i := 3) (N := some 111) (v := ?_) (a' := ?_) #[Y,Y,Z,Y,Z,Z,Z,Z,Z,Z,Z,Z,Z,Z,Z,Z,Z,Z,Z,Z,Z,Z] rfl rfl (any_of HT_.out (by kernel_rfl)) (fun _ _ _ h => h) (Or.inl ⟨by rfl, ?_⟩) ?_ ?_
            rotate_left
            ·intro w'
             go_simp; with_reducible rfl
            rotate_left
            ·simp only [Act.put, List.setIfInBounds_toArray, List.set_cons_zero, List.set_cons_succ, i64_w]
             rfl
            refine pure_ (i := 4) (N := some 112) (v := ?_) (a' := ?_) #[Y,Y,Z,Y,Y,Z,Z,Z,Z,Z,Z,Z,Z,Z,Z,Z,Z,Z,Z,Z,Z,Z] rfl rfl (any_of HT_.out (by kernel_rfl)) (fun _ _ _ h => h) (Or.inl ⟨by rfl, ?_⟩) ?_ ?_
            rotate_left
            ·intro w'
             go_simp; with_reducible rfl
            rotate_left
            ·simp only [Act.put, List.setIfInBounds_toArray, List.set_cons_zero, List.set_cons_succ, i64_w]
             rfl
            refine pure_ (i := 5) (N := some 113) (v := ?_) (a' := ?_) #[Y,Y,Z,Y,Y,Y,Z,Z,Z,Z,Z,Z,Z,Z,Z,Z,Z,Z,Z,Z,Z,Z] rfl rfl (any_of HT_.out (by kernel_rfl)) (fun _ _ _ h => h) (Or.inl ⟨by rfl, ?_⟩) ?_ ?_
            rotate_left
            ·intro w'
             go_simp; with_reducible rfl
            rotate_left
            ·simp only [Act.put, List.setIfInBounds_toArray, List.set_cons_zero, List.set_cons_succ, i64_w]
             rfl
            refine pure_ (i := 8) (N := some 116) (v := ?_) (a' := ?_) #[Y,Y,Z,Y,Y,Y,Z,Z,Y,Z,Z,Z,Z,Z,Z,Z,Z,Z,Z,Z,Z,Z] rfl rfl (any_of HT_.out (by kernel_rfl)) (fun _ _ _ h => h) (Or.inl ⟨by rfl, ?_⟩) ?_ ?_
            rotate_left
            ·intro w'
             go_simp; with_reducible rfl
            rotate_left
            ·simp only [Act.put, List.setIfInBounds_toArray, List.set_cons_zero, List.set_cons_succ, i64_w]
             rfl
            refine pure_ (i := 9) (N := some 117) (v := ?_) (a' := ?_) #[Y,Y,Z,Y,Y,Y,Z,Z,Y,Y,Z,Z,Z,Z,Z,Z,Z,Z,Z,Z,Z,Z] rfl rfl (any_of HT_.out (by kernel_rfl)) (fun _ _ _ h => h) (Or.inl ⟨by rfl, ?_⟩) ?_ ?_
            rotate_left
            ·intro w'
             go_simp; with_reducible rfl
            rotate_left
            ·simp only [Act.put, List.setIfInBounds_toArray, List.set_cons_zero, List.set_cons_succ, i64_w]
             rfl
            refine pure_ (i := 13) (N := some 121) (v := ?_) (a' := ?_) #[Y,Y,Z,Y,Y,Y,Z,Z,Y,Y,Z,Z,Z,Y,Z,Z,Z,Z,Z,Z,Z,Z] rfl rfl (any_of HT_.out (by kernel_rfl)) (fun _ _ _ h => h) (Or.inl ⟨by rfl, ?_⟩) ?_ ?_
            rotate_left
            ·intro w'
             go_simp; with_reducible rfl
            rotate_left
            ·simp only [Act.put, List.setIfInBounds_toArray, List.set_cons_zero, List.set_cons_succ, i64_w]
             rfl
            refine pure_ (i := 14) (N := some 122) (v := ?_) (a' := ?_) #[Y,Y,Z,Y,Y,Y,Z,Z,Y,Y,Z,Z,Z,Y,Y,Z,Z,Z,Z,Z,Z,Z] rfl rfl (any_of HT_.out (by kernel_rfl)) (fun _ _ _ h => h) (Or.inl ⟨by rfl, ?_⟩) ?_ ?_
            rotate_left
            ·intro w'
             go_simp; with_reducible rfl
            rotate_left
            ·simp only [Act.put, List.setIfInBounds_toArray, List.set_cons_zero, List.set_cons_succ, i64_w]
             rfl
            refine take_ (i := 2) (N := some 110) (v := ?_) (a' := ?_) #[Y,Y,Y,Y,Y,Y,Z,Z,Y,Y,Z,Z,Z,Y,Y,Z,Z,Z,Z,Z,Z,Z] rfl rfl (take_ofW HT_.out HW_.out (by kernel_rfl)) (fun _ _ _ h => h) (Or.inl ⟨by rfl, ?_⟩) hHeld ?_ ?_
            rotate_left
            ·rintro w' ⟨s0, s1, s2, s3, s4, s5, s6, s7, s8, s9, s10⟩
             go_simp
             with_reducible rfl
            rotate_left
            ·simp only [Act.put, List.setIfInBounds_toArray, List.set_cons_zero, List.set_cons_succ, i64_w]
             rfl
            refine take_ (i := 6) (N := some 114) (v := ?_) (a' := ?_) #[Y,Y,Y,Y,Y,Y,Y,Z,Y,Y,Z,Z,Z,Y,Y,Z,Z,Z,Z,Z,Z,Z] rfl rfl (take_ofW HT_.out HW_.out (by kernel_rfl)) (fun _ _ _ h => h) (Or.inl ⟨by rfl, ?_⟩) hHeld ?_ ?_
            rotate_left
            ·rintro w' ⟨s0, s1, s2, s3, s4, s5, s6, s7, s8, s9, s10⟩
             go_simp
             with_reducible rfl
            rotate_left
            ·simp only [Act.put, List.setIfInBounds_toArray, List.set_cons_zero, List.set_cons_succ, i64_w]
             rfl
            refine take_ (i := 10) (N := some 118) (v := ?_) (a' := ?_) #[Y,Y,Y,Y,Y,Y,Y,Z,Y,Y,Y,Z,Z,Y,Y,Z,Z,Z,Z,Z,Z,Z] rfl rfl (take_ofW HT_.out HW_.out (by kernel_rfl)) (fun _ _ _ h => h) (Or.inl ⟨by rfl, ?_⟩) hHeld ?_ ?_
            rotate_left
            ·rintro w' ⟨s0, s1, s2, s3, s4, s5, s6, s7, s8, s9, s10⟩
             go_simp
             with_reducible rfl
            rotate_left
            ·simp only [Act.put, List.setIfInBounds_toArray, List.set_cons_zero, List.set_cons_succ, i64_w]
             rfl
            refine pure_ (i := 11) (N := some 119) (v := ?_) (a' := ?_) #[Y,Y,Y,Y,Y,Y,Y,Z,Y,Y,Y,Y,Z,Y,Y,Z,Z,Z,Z,Z,Z,Z] rfl rfl (any_of HT_.out (by kernel_rfl)) (fun _ _ _ h => h) (Or.inl ⟨by rfl, ?_⟩) ?_ ?_
            rotate_left
            ·intro w'
             go_simp; with_reducible rfl
            rotate_left
            ·simp only [Act.put, List.setIfInBounds_toArray, List.set_cons_zero, List.set_cons_succ, i64_w]
             rfl
            refine join_ (σ := Value × Value) 7 #[Y,Y,Y,Y,Y,Y,Y,Y,Y,Y,Y,Y,Y,Y,Y,Z,Z,Z,Z,Z,Z,Z] (fun s_ => [(115, s_.1), (120, s_.2)]) (fun s_ w' => (w'.cell? ⟨gb781, 0, none⟩ = some (.int .i64 a0_0) ∧ w'.cell? ⟨gb781, 1, none⟩ = some (.slice Ao43 y778.length co43) ∧ w'.cell? ⟨gb781, 2, none⟩ = some (.int .i64 a0_2) ∧ w'.cell? ⟨gb781, 3, none⟩ = some (.int .i64 (wrap64 ((wrap64 ((wrap64 ((wrap64 ((y772.length : Int) + a0_3)) - 1)) + a1_3)) - 1))) ∧ w'.cell? ⟨gb781, 4, none⟩ = some (.slice Ao97 x782004_3.length co97) ∧ w'.cell? ⟨gb767, 0, none⟩ = some (.int .i64 a0_0) ∧ w'.cell? ⟨gb767, 1, none⟩ = some (.slice A0_1 l0_1.length c0_1) ∧ w'.cell? ⟨gb767, 2, none⟩ = some (.int .i64 a0_2) ∧ w'.cell? ⟨gb767, 3, none⟩ = some (.int .i64 a0_3) ∧ w'.cell? ⟨gb767, 4, none⟩ = some (.slice A0_4 l0_4.length c0_4) ∧ w'.cell? ad805 = some (.int .i64 (rd (rd_L1 l1_4 x104_3) 0))) ∧ (Kd.V (Kd.int .i64) 2 w' w.heap.size (fun k_ => ((P0_4_ k_ ∨ P1_4_ k_) ∨ w.heap.size ≤ k_) ∧ some k_ ≠ (s_.1 : Value).ownBlock ∧ some k_ ≠ (s_.2 : Value).ownBlock ∧ some k_ ≠ (.slice Ao43 y778.length co43 : Value).ownBlock ∧ some k_ ≠ (.slice Ao97 x782004_3.length co97 : Value).ownBlock ∧ k_ ≠ gb767 ∧ k_ ≠ gb768 ∧ k_ ≠ gb769 ∧ k_ ≠ gb781) (.slice (some ad805) (rd_L1 l1_4 x104_3).length c804_0) (rd_L1 l1_4 x104_3)) ∧ (Kd.R (Kd.int .i64) 2 w' w.heap.size (fun k_ => (w.heap.size ≤ k_) ∧ some k_ ≠ (s_.2 : Value).ownBlock ∧ some k_ ≠ (.slice Ao43 y778.length co43 : Value).ownBlock) s_.1 y806) ∧ (Kd.R (Kd.int .i64) 2 w' w.heap.size (fun k_ => (w.heap.size ≤ k_) ∧ some k_ ≠ (s_.1 : Value).ownBlock ∧ some k_ ≠ (.slice Ao43 y778.length co43 : Value).ownBlock) s_.2 y809) ∧ (Kd.V (Kd.int .i64) 2 w' w.heap.size (fun k_ => ((P0_4_ k_ ∨ P1_4_ k_) ∨ w.heap.size ≤ k_) ∧ some k_ ≠ (s_.1 : Value).ownBlock ∧ some k_ ≠ (s_.2 : Value).ownBlock ∧ some k_ ≠ (.slice Ao43 y778.length co43 : Value).ownBlock ∧ some k_ ≠ (.slice Ao97 x782004_3.length co97 : Value).ownBlock ∧ k_ ≠ gb767 ∧ k_ ≠ gb768 ∧ k_ ≠ gb769 ∧ k_ ≠ gb781) (.slice A99 y812.length c99) y812) ∧ (Kd.V (Kd.slice 2 (Kd.int .i64)) 35 w' w.heap.size (fun k_ => ((P0_4_ k_ ∨ P1_4_ k_) ∨ w.heap.size ≤ k_) ∧ some k_ ≠ (s_.1 : Value).ownBlock ∧ some k_ ≠ (s_.2 : Value).ownBlock ∧ some k_ ≠ (.slice Ao43 y778.length co43 : Value).ownBlock ∧ some k_ ≠ (.slice Ao97 x782004_3.length co97 : Value).ownBlock ∧ k_ ≠ gb767 ∧ k_ ≠ gb768 ∧ k_ ≠ gb769 ∧ k_ ≠ gb781) (.slice (some ad804) l1_4.length c1_4) l1_4) ∧ (Kd.V (Kd.slice 2 (Kd.int .i64)) 35 w' w.heap.size (fun k_ => ((P0_4_ k_ ∨ P1_4_ k_) ∨ w.heap.size ≤ k_) ∧ some k_ ≠ (s_.1 : Value).ownBlock ∧ some k_ ≠ (s_.2 : Value).ownBlock ∧ some k_ ≠ (.slice Ao43 y778.length co43 : Value).ownBlock ∧ some k_ ≠ (.slice Ao97 x782004_3.length co97 : Value).ownBlock ∧ k_ ≠ gb767 ∧ k_ ≠ gb768 ∧ k_ ≠ gb769 ∧ k_ ≠ gb781) (.slice A0_4 l0_4.length c0_4) l0_4) ∧ (Kd.V (Kd.slice 2 (Kd.int .i64)) 35 w' w.heap.size (fun k_ => ((P0_4_ k_ ∨ P1_4_ k_) ∨ w.heap.size ≤ k_) ∧ some k_ ≠ (s_.1 : Value).ownBlock ∧ some k_ ≠ (s_.2 : Value).ownBlock ∧ some k_ ≠ (.slice Ao43 y778.length co43 : Value).ownBlock ∧ some k_ ≠ (.slice Ao97 x782004_3.length co97 : Value).ownBlock ∧ k_ ≠ gb767 ∧ k_ ≠ gb768 ∧ k_ ≠ gb769 ∧ k_ ≠ gb781) (.slice (some ad804) l1_4.length c1_4) l1_4) ∧ (Kd.R (Kd.int .i64) 2 w' w.heap.size (fun k_ => (w.heap.size ≤ k_) ∧ some k_ ≠ (s_.1 : Value).ownBlock ∧ some k_ ≠ (s_.2 : Value).ownBlock) (.slice Ao43 y778.length co43) y778) ∧ (Kd.S (Kd.slice 2 (Kd.int .i64)) 35 w' w.heap.size (fun k_ => ((P0_4_ k_ ∨ P1_4_ k_) ∨ w.heap.size ≤ k_) ∧ some k_ ≠ (s_.1 : Value).ownBlock ∧ some k_ ≠ (s_.2 : Value).ownBlock ∧ some k_ ≠ (.slice Ao43 y778.length co43 : Value).ownBlock ∧ k_ ≠ gb767 ∧ k_ ≠ gb768 ∧ k_ ≠ gb769 ∧ k_ ≠ gb781) (.slice Ao97 x782004_3.length co97) x782004_3) ∧ (w'.heap[gb767]? = some (.cells #[.int .i64 a0_0, .slice A0_1 l0_1.length c0_1, .int .i64 a0_2, .int .i64 a0_3, .slice A0_4 l0_4.length c0_4] 53 (0, 0))) ∧ (w'.heap[gb768]? = some (.cells #[.int .i64 a1_0, .slice A1_1 l1_1.length c1_1, .int .i64 a1_2, .int .i64 a1_3, .slice (some ad804) l1_4.length c1_4] 53 (0, 0))) ∧ (w'.heap[gb769]? = some (.cells #[.int .i64 0, .slice none 0 0, .int .i64 0, .int .i64 0, .slice none 0 0] 53 (0, 0))) ∧ (w'.heap[gb781]? = some (.cells #[.int .i64 a0_0, .slice Ao43 y778.length co43, .int .i64 a0_2, .int .i64 (wrap64 ((wrap64 ((wrap64 ((wrap64 ((y772.length : Int) + a0_3)) - 1)) + a1_3)) - 1)), .slice Ao97 x782004_3.length co97] 53 (0, 0))) ∧ (Below w.heap.size w w')) ?_ ?_
            rotate_left
            ·intro hCont
             refine two_ (i := 7) (j := 12) (Ni := some 115) (Nj := some 120) #[Y,Y,Y,Y,Y,Y,Y,Y,Y,Y,Y,Y,Z,Y,Y,Z,Z,Z,Z,Z,Z,Z] #[Y,Y,Y,Y,Y,Y,Y,Z,Y,Y,Y,Y,Y,Y,Y,Z,Z,Z,Z,Z,Z,Z] rfl rfl rfl rfl (two_of HT_.out (by kernel_rfl)) (by decide) (by decide) (fun K hK => ?_) (fun K hK => ?_)
             ·skip
              refine combGoes Try.func85 (by kernel_rfl) rfl #[.int .i64 (rd (rd_L1 l1_4 x104_3) 0)] (by rfl) rfl rfl rfl (by simp only [List.map_toArray, List.map_cons, List.map_nil]; rfl) ?_
              rw [show ((#[.int .i64 (rd (rd_L1 l1_4 x104_3) 0)] : Array Value) ++ #[]) = #[.int .i64 (rd (rd_L1 l1_4 x104_3) 0)] from rfl]
              with_reducible refine (own1.calls _ _).mono ?_
              rintro e w100 ⟨v807, rfl, ho101, hb⟩
              refine ⟨_, rfl, ?_⟩
              have HS10_ := (hb.cell (World.block_lt_of_cell? _ _ (hHeld.2.2.2.2.2.2.2.2.2.2))).trans (hHeld.2.2.2.2.2.2.2.2.2.2)
              rw [← Ny806.out] at ho101
              have n0_ := Aside0.mk (Kd.V_elder' HO_102.out (Kd.R_base ho101) hb)
              have n1_ := Aside0.mk (Kd.V_elder' O8.out (Kd.R_base ho101) hb)
              have n2_ := Aside0.mk (Kd.V_elder' O9.out (Kd.R_base ho101) hb)
              have n3_ := Aside0.mk (Kd.R_elder' Oy.out (Kd.R_base ho101) hb)
              have n4_ := Aside0.mk (Kd.S_elder' Oz.out (Kd.R_base ho101) hb)
              have n5_ := Aside0.mk (Kd.V_elder' HL804_0.out (Kd.R_base ho101) hb)
              have n6_ := Aside0.mk (Kd.V_elder' HO816.out (Kd.R_base ho101) hb)
              have n7_ := Aside0.mk (Kd.R_lower (Kd.R_new' (Kd.R_newM (M := fun k_ => (w.heap.size ≤ k_)) ho101 (below_size HB.out) (fun k_ h_ => h_)) (Kd.R_lt Oy.out)) (below_size HB.out))
              have n8_ := Aside0.mk (blk_below BK767.out hb)
              have n9_ := Aside0.mk (blk_below BK768.out hb)
              have n10_ := Aside0.mk (blk_below BK769.out hb)
              have n11_ := Aside0.mk (blk_below BK781.out hb)
              have n12_ := Aside0.mk (Kd.C_below (by repeat (first | (with_reducible exact HR804_0.out) | (with_reducible refine Kd.C_alloc ?_ _) | (with_reducible refine Kd.C_drewN ?_ _) | (with_reducible refine Kd.C_drew ?_) | exact HR804_0.out)) hb)
              have n13_ := Aside0.mk (below_step HB.out hb)
              clear HO_102 O8 O9 Oy Oz HL804_0 HO816 BK767 BK768 BK769 BK781 HR804_0 HB
              have HO_102 := n0_
              have O8 := n1_
              have O9 := n2_
              have Oy := n3_
              have Oz := n4_
              have HL804_0 := n5_
              have HO816 := n6_
              have HO808 := n7_
              have BK767 := n8_
              have BK768 := n9_
              have BK769 := n10_
              have BK781 := n11_
              have HR804_0 := n12_
              have HB := n13_
              clear n0_ n1_ n2_ n3_ n4_ n5_ n6_ n7_ n8_ n9_ n10_ n11_ n12_ n13_ hb ho101
              refine hK.out _ _ ⟨(blk_cell BK781.out 0).trans rfl, (blk_cell BK781.out 1).trans rfl, (blk_cell BK781.out 2).trans rfl, (blk_cell BK781.out 3).trans rfl, (blk_cell BK781.out 4).trans rfl, (blk_cell BK767.out 0).trans rfl, (blk_cell BK767.out 1).trans rfl, (blk_cell BK767.out 2).trans rfl, (blk_cell BK767.out 3).trans rfl, (blk_cell BK767.out 4).trans rfl, HS10_⟩ (fun hHeld => ?_)
              clear hK K
              refine norm_ (a' := ?_) ?_ ?_
              rotate_left
              ·show Act.put _ (some 115) _ = _
               simp only [Act.put, List.setIfInBounds_toArray, List.set_cons_zero, List.set_cons_succ, i64_w]
               rfl
              refine one_ (i := 12) (N := some 120) #[Y,Y,Y,Y,Y,Y,Y,Y,Y,Y,Y,Y,Y,Y,Y,Z,Z,Z,Z,Z,Z,Z] rfl rfl (one_of HT_.out (by kernel_rfl)) (by decide) (fun K hK => ?_)
              refine Kd.R_make_step (Kd.int .i64) _ 2 (by rfl) (N := 120) rfl 35 _ _ rfl ji91 rfl rfl Try.underlying35 (.int .i64 0) 8 info2 rfl (by decide) (by omega) 0 (ok := fun _ => True) (okp := fun _ => True) rfl (fun _ hk => hk) trivial (of_decide_eq_true (by first | (with_reducible assumption) | assumption)) (Nat.le_trans (Nat.mul_le_mul_right _ (of_decide_eq_true (by first | (with_reducible assumption) | assumption) : ji91.toNat ≤ 35184372088832)) (by omega)) (Below.refl _ _) (Nat.le_refl _) ?_
              intro v810 w102 ho103 hb hg_ hnew_
              have HS10_ := (hb.cell (World.block_lt_of_cell? _ _ (hHeld.2.2.2.2.2.2.2.2.2.2))).trans (hHeld.2.2.2.2.2.2.2.2.2.2)
              clear hg_ hnew_
              rw [← Ny809.out] at ho103
              have n0_ := Aside0.mk (Kd.V_elder' HO_102.out (Kd.R_base ho103) hb)
              have n1_ := Aside0.mk (Kd.V_elder' O8.out (Kd.R_base ho103) hb)
              have n2_ := Aside0.mk (Kd.V_elder' O9.out (Kd.R_base ho103) hb)
              have n3_ := Aside0.mk (Kd.R_elder' Oy.out (Kd.R_base ho103) hb)
              have n4_ := Aside0.mk (Kd.S_elder' Oz.out (Kd.R_base ho103) hb)
              have n5_ := Aside0.mk (Kd.V_elder' HL804_0.out (Kd.R_base ho103) hb)
              have n6_ := Aside0.mk (Kd.V_elder' HO816.out (Kd.R_base ho103) hb)
              have n7_ := Aside0.mk (Kd.R_elder' HO808.out (Kd.R_base ho103) hb)
              have n8_ := Aside0.mk (Kd.R_lower (Kd.R_new' (Kd.R_new' (Kd.R_newM (M := fun k_ => (w.heap.size ≤ k_)) ho103 (below_size HB.out) (fun k_ h_ => h_)) (Kd.R_lt Oy.out)) (Kd.R_lt HO808.out)) (below_size HB.out))
              have n9_ := Aside0.mk (blk_below BK767.out hb)
              have n10_ := Aside0.mk (blk_below BK768.out hb)
              have n11_ := Aside0.mk (blk_below BK769.out hb)
              have n12_ := Aside0.mk (blk_below BK781.out hb)
              have n13_ := Aside0.mk (Kd.C_below (by repeat (first | (with_reducible exact HR804_0.out) | (with_reducible refine Kd.C_alloc ?_ _) | (with_reducible refine Kd.C_drewN ?_ _) | (with_reducible refine Kd.C_drew ?_) | exact HR804_0.out)) hb)
              have n14_ := Aside0.mk (below_step HB.out hb)
              clear HO_102 O8 O9 Oy Oz HL804_0 HO816 HO808 BK767 BK768 BK769 BK781 HR804_0 HB
              have HO_102 := n0_
              have O8 := n1_
              have O9 := n2_
              have Oy := n3_
              have Oz := n4_
              have HL804_0 := n5_
              have HO816 := n6_
              have HO808 := n7_
              have HO811 := n8_
              have BK767 := n9_
              have BK768 := n10_
              have BK769 := n11_
              have BK781 := n12_
              have HR804_0 := n13_
              have HB := n14_
              clear n0_ n1_ n2_ n3_ n4_ n5_ n6_ n7_ n8_ n9_ n10_ n11_ n12_ n13_ n14_ hb ho103
              refine hK.out _ _ ⟨(blk_cell BK781.out 0).trans rfl, (blk_cell BK781.out 1).trans rfl, (blk_cell BK781.out 2).trans rfl, (blk_cell BK781.out 3).trans rfl, (blk_cell BK781.out 4).trans rfl, (blk_cell BK767.out 0).trans rfl, (blk_cell BK767.out 1).trans rfl, (blk_cell BK767.out 2).trans rfl, (blk_cell BK767.out 3).trans rfl, (blk_cell BK767.out 4).trans rfl, HS10_⟩ (fun hHeld => ?_)
              clear hK K
              refine norm_ (a' := ?_) ?_ ?_
              rotate_left
              ·show Act.put _ (some 120) _ = _
               simp only [Act.put, List.setIfInBounds_toArray, List.set_cons_zero, List.set_cons_succ, i64_w]
               rfl
              exact norm_ (by simp only [putAll, Act.put, List.setIfInBounds_toArray, List.set_cons_zero, List.set_cons_succ]) (hCont (v807, v810) _ ⟨hHeld, (by (with_reducible repeat (first | apply Kd.V_alloc | apply Kd.V_drewN | apply Kd.V_drew)); exact Kd.V_mono HL804_0.out (fun _ hk => ⟨hk.1.1.1, ⟨hk.1.2, ⟨hk.2, ⟨hk.1.1.2.1, ⟨hk.1.1.2.2.1, ⟨hk.1.1.2.2.2.1, ⟨hk.1.1.2.2.2.2.1, ⟨hk.1.1.2.2.2.2.2.1, hk.1.1.2.2.2.2.2.2⟩⟩⟩⟩⟩⟩⟩⟩)), (by (with_reducible repeat (first | apply Kd.R_alloc | apply Kd.R_drewN | apply Kd.R_drew)); exact Kd.R_mono HO808.out (fun _ hk => ⟨hk.1.1.1, ⟨hk.2, hk.1.2⟩⟩)), (by (with_reducible repeat (first | apply Kd.R_alloc | apply Kd.R_drewN | apply Kd.R_drew)); exact Kd.R_mono HO811.out (fun _ hk => ⟨hk.1.1.1, ⟨hk.2, hk.1.2⟩⟩)), (by (with_reducible repeat (first | apply Kd.V_alloc | apply Kd.V_drewN | apply Kd.V_drew)); exact Kd.V_mono HO816.out (fun _ hk => ⟨hk.1.1.1, ⟨hk.1.2, ⟨hk.2, ⟨hk.1.1.2.1, ⟨hk.1.1.2.2.1, ⟨hk.1.1.2.2.2.1, ⟨hk.1.1.2.2.2.2.1, ⟨hk.1.1.2.2.2.2.2.1, hk.1.1.2.2.2.2.2.2⟩⟩⟩⟩⟩⟩⟩⟩)), (by (with_reducible repeat (first | apply Kd.V_alloc | apply Kd.V_drewN | apply Kd.V_drew)); exact Kd.V_mono HO_102.out (fun _ hk => ⟨hk.1.1.1, ⟨hk.1.2, ⟨hk.2, ⟨hk.1.1.2.1, ⟨hk.1.1.2.2.1, ⟨hk.1.1.2.2.2.1, ⟨hk.1.1.2.2.2.2.1, ⟨hk.1.1.2.2.2.2.2.1, hk.1.1.2.2.2.2.2.2⟩⟩⟩⟩⟩⟩⟩⟩)), (by (with_reducible repeat (first | apply Kd.V_alloc | apply Kd.V_drewN | apply Kd.V_drew)); exact Kd.V_mono O8.out (fun _ hk => ⟨hk.1.1.1, ⟨hk.1.2, ⟨hk.2, ⟨hk.1.1.2.1, ⟨hk.1.1.2.2.1, ⟨hk.1.1.2.2.2.1, ⟨hk.1.1.2.2.2.2.1, ⟨hk.1.1.2.2.2.2.2.1, hk.1.1.2.2.2.2.2.2⟩⟩⟩⟩⟩⟩⟩⟩)), (by (with_reducible repeat (first | apply Kd.V_alloc | apply Kd.V_drewN | apply Kd.V_drew)); exact Kd.V_mono O9.out (fun _ hk => ⟨hk.1.1.1, ⟨hk.1.2, ⟨hk.2, ⟨hk.1.1.2.1, ⟨hk.1.1.2.2.1, ⟨hk.1.1.2.2.2.1, ⟨hk.1.1.2.2.2.2.1, ⟨hk.1.1.2.2.2.2.2.1, hk.1.1.2.2.2.2.2.2⟩⟩⟩⟩⟩⟩⟩⟩)), (by (with_reducible repeat (first | apply Kd.R_alloc | apply Kd.R_drewN | apply Kd.R_drew)); exact Kd.R_mono Oy.out (fun _ hk => ⟨hk.1.1, ⟨hk.1.2, hk.2⟩⟩)), (by (with_reducible repeat (first | apply Kd.S_alloc | apply Kd.S_drewN | apply Kd.S_drew)); exact Kd.S_mono Oz.out (fun _ hk => ⟨hk.1.1.1, ⟨hk.1.2, ⟨hk.2, ⟨hk.1.1.2.1, ⟨hk.1.1.2.2.1, ⟨hk.1.1.2.2.2.1, ⟨hk.1.1.2.2.2.2.1, hk.1.1.2.2.2.2.2⟩⟩⟩⟩⟩⟩⟩)), BK767.out, BK768.out, BK769.out, BK781.out, (by repeat (first | exact HB.out | refine below_set ?_ GE769.out | refine below_set ?_ GE781.out))⟩)
             ·skip
              refine Kd.R_make_step (Kd.int .i64) _ 2 (by rfl) (N := 120) rfl 35 _ _ rfl ji91 rfl rfl Try.underlying35 (.int .i64 0) 8 info2 rfl (by decide) (by omega) 0 (ok := fun _ => True) (okp := fun _ => True) rfl (fun _ hk => hk) trivial (of_decide_eq_true (by first | (with_reducible assumption) | assumption)) (Nat.le_trans (Nat.mul_le_mul_right _ (of_decide_eq_true (by first | (with_reducible assumption) | assumption) : ji91.toNat ≤ 35184372088832)) (by omega)) (Below.refl _ _) (Nat.le_refl _) ?_
              intro v810 w100 ho101 hb hg_ hnew_
              have HS10_ := (hb.cell (World.block_lt_of_cell? _ _ (hHeld.2.2.2.2.2.2.2.2.2.2))).trans (hHeld.2.2.2.2.2.2.2.2.2.2)
              clear hg_ hnew_
              rw [← Ny809.out] at ho101
              have n0_ := Aside0.mk (Kd.V_elder' HO_102.out (Kd.R_base ho101) hb)
              have n1_ := Aside0.mk (Kd.V_elder' O8.out (Kd.R_base ho101) hb)
              have n2_ := Aside0.mk (Kd.V_elder' O9.out (Kd.R_base ho101) hb)
              have n3_ := Aside0.mk (Kd.R_elder' Oy.out (Kd.R_base ho101) hb)
              have n4_ := Aside0.mk (Kd.S_elder' Oz.out (Kd.R_base ho101) hb)
              have n5_ := Aside0.mk (Kd.V_elder' HL804_0.out (Kd.R_base ho101) hb)
              have n6_ := Aside0.mk (Kd.V_elder' HO816.out (Kd.R_base ho101) hb)
              have n7_ := Aside0.mk (Kd.R_lower (Kd.R_new' (Kd.R_newM (M := fun k_ => (w.heap.size ≤ k_)) ho101 (below_size HB.out) (fun k_ h_ => h_)) (Kd.R_lt Oy.out)) (below_size HB.out))
              have n8_ := Aside0.mk (blk_below BK767.out hb)
              have n9_ := Aside0.mk (blk_below BK768.out hb)
              have n10_ := Aside0.mk (blk_below BK769.out hb)
              have n11_ := Aside0.mk (blk_below BK781.out hb)
              have n12_ := Aside0.mk (Kd.C_below (by repeat (first | (with_reducible exact HR804_0.out) | (with_reducible refine Kd.C_alloc ?_ _) | (with_reducible refine Kd.C_drewN ?_ _) | (with_reducible refine Kd.C_drew ?_) | exact HR804_0.out)) hb)
              have n13_ := Aside0.mk (below_step HB.out hb)
              clear HO_102 O8 O9 Oy Oz HL804_0 HO816 BK767 BK768 BK769 BK781 HR804_0 HB
              have HO_102 := n0_
              have O8 := n1_
              have O9 := n2_
              have Oy := n3_
              have Oz := n4_
              have HL804_0 := n5_
              have HO816 := n6_
              have HO811 := n7_
              have BK767 := n8_
              have BK768 := n9_
              have BK769 := n10_
              have BK781 := n11_
              have HR804_0 := n12_
              have HB := n13_
              clear n0_ n1_ n2_ n3_ n4_ n5_ n6_ n7_ n8_ n9_ n10_ n11_ n12_ n13_ hb ho101
              refine hK.out _ _ ⟨(blk_cell BK781.out 0).trans rfl, (blk_cell BK781.out 1).trans rfl, (blk_cell BK781.out 2).trans rfl, (blk_cell BK781.out 3).trans rfl, (blk_cell BK781.out 4).trans rfl, (blk_cell BK767.out 0).trans rfl, (blk_cell BK767.out 1).trans rfl, (blk_cell BK767.out 2).trans rfl, (blk_cell BK767.out 3).trans rfl, (blk_cell BK767.out 4).trans rfl, HS10_⟩ (fun hHeld => ?_)
              clear hK K
              refine norm_ (a' := ?_) ?_ ?_
              rotate_left
              ·show Act.put _ (some 120) _ = _
               simp only [Act.put, List.setIfInBounds_toArray, List.set_cons_zero, List.set_cons_succ, i64_w]
               rfl
              refine one_ (i := 7) (N := some 115) #[Y,Y,Y,Y,Y,Y,Y,Y,Y,Y,Y,Y,Y,Y,Y,Z,Z,Z,Z,Z,Z,Z] rfl rfl (one_of HT_.out (by kernel_rfl)) (by decide) (fun K hK => ?_)
              refine combGoes Try.func85 (by kernel_rfl) rfl #[.int .i64 (rd (rd_L1 l1_4 x104_3) 0)] (by rfl) rfl rfl rfl (by simp only [List.map_toArray, List.map_cons, List.map_nil]; rfl) ?_
              rw [show ((#[.int .i64 (rd (rd_L1 l1_4 x104_3) 0)] : Array Value) ++ #[]) = #[.int .i64 (rd (rd_L1 l1_4 x104_3) 0)] from rfl]
              with_reducible refine (own1.calls _ _).mono ?_
              rintro e w102 ⟨v807, rfl, ho103, hb⟩
              refine ⟨_, rfl, ?_⟩
              have HS10_ := (hb.cell (World.block_lt_of_cell? _ _ (hHeld.2.2.2.2.2.2.2.2.2.2))).trans (hHeld.2.2.2.2.2.2.2.2.2.2)
              rw [← Ny806.out] at ho103
              have n0_ := Aside0.mk (Kd.V_elder' HO_102.out (Kd.R_base ho103) hb)
              have n1_ := Aside0.mk (Kd.V_elder' O8.out (Kd.R_base ho103) hb)
              have n2_ := Aside0.mk (Kd.V_elder' O9.out (Kd.R_base ho103) hb)
              have n3_ := Aside0.mk (Kd.R_elder' Oy.out (Kd.R_base ho103) hb)
              have n4_ := Aside0.mk (Kd.S_elder' Oz.out (Kd.R_base ho103) hb)
              have n5_ := Aside0.mk (Kd.V_elder' HL804_0.out (Kd.R_base ho103) hb)
              have n6_ := Aside0.mk (Kd.V_elder' HO816.out (Kd.R_base ho103) hb)
              have n7_ := Aside0.mk (Kd.R_elder' HO811.out (Kd.R_base ho103) hb)
              have n8_ := Aside0.mk (Kd.R_lower (Kd.R_new' (Kd.R_new' (Kd.R_newM (M := fun k_ => (w.heap.size ≤ k_)) ho103 (below_size HB.out) (fun k_ h_ => h_)) (Kd.R_lt Oy.out)) (Kd.R_lt HO811.out)) (below_size HB.out))
              have n9_ := Aside0.mk (blk_below BK767.out hb)
              have n10_ := Aside0.mk (blk_below BK768.out hb)
              have n11_ := Aside0.mk (blk_below BK769.out hb)
              have n12_ := Aside0.mk (blk_below BK781.out hb)
              have n13_ := Aside0.mk (Kd.C_below (by repeat (first | (with_reducible exact HR804_0.out) | (with_reducible refine Kd.C_alloc ?_ _) | (with_reducible refine Kd.C_drewN ?_ _) | (with_reducible refine Kd.C_drew ?_) | exact HR804_0.out)) hb)
              have n14_ := Aside0.mk (below_step HB.out hb)
              clear HO_102 O8 O9 Oy Oz HL804_0 HO816 HO811 BK767 BK768 BK769 BK781 HR804_0 HB
              have HO_102 := n0_
              have O8 := n1_
              have O9 := n2_
              have Oy := n3_
              have Oz := n4_
              have HL804_0 := n5_
              have HO816 := n6_
              have HO811 := n7_
              have HO808 := n8_
              have BK767 := n9_
              have BK768 := n10_
              have BK769 := n11_
              have BK781 := n12_
              have HR804_0 := n13_
              have HB := n14_
              clear n0_ n1_ n2_ n3_ n4_ n5_ n6_ n7_ n8_ n9_ n10_ n11_ n12_ n13_ n14_ hb ho103
              refine hK.out _ _ ⟨(blk_cell BK781.out 0).trans rfl, (blk_cell BK781.out 1).trans rfl, (blk_cell BK781.out 2).trans rfl, (blk_cell BK781.out 3).trans rfl, (blk_cell BK781.out 4).trans rfl, (blk_cell BK767.out 0).trans rfl, (blk_cell BK767.out 1).trans rfl, (blk_cell BK767.out 2).trans rfl, (blk_cell BK767.out 3).trans rfl, (blk_cell BK767.out 4).trans rfl, HS10_⟩ (fun hHeld => ?_)
              clear hK K
              refine norm_ (a' := ?_) ?_ ?_
              rotate_left
              ·show Act.put _ (some 115) _ = _
               simp only [Act.put, List.setIfInBounds_toArray, List.set_cons_zero, List.set_cons_succ, i64_w]
               rfl
              exact norm_ (by simp only [putAll, Act.put, List.setIfInBounds_toArray, List.set_cons_zero, List.set_cons_succ]) (hCont (v807, v810) _ ⟨hHeld, (by (with_reducible repeat (first | apply Kd.V_alloc | apply Kd.V_drewN | apply Kd.V_drew)); exact Kd.V_mono HL804_0.out (fun _ hk => ⟨hk.1.1.1, ⟨hk.2, ⟨hk.1.2, ⟨hk.1.1.2.1, ⟨hk.1.1.2.2.1, ⟨hk.1.1.2.2.2.1, ⟨hk.1.1.2.2.2.2.1, ⟨hk.1.1.2.2.2.2.2.1, hk.1.1.2.2.2.2.2.2⟩⟩⟩⟩⟩⟩⟩⟩)), (by (with_reducible repeat (first | apply Kd.R_alloc | apply Kd.R_drewN | apply Kd.R_drew)); exact Kd.R_mono HO808.out (fun _ hk => ⟨hk.1.1.1, ⟨hk.2, hk.1.2⟩⟩)), (by (with_reducible repeat (first | apply Kd.R_alloc | apply Kd.R_drewN | apply Kd.R_drew)); exact Kd.R_mono HO811.out (fun _ hk => ⟨hk.1.1.1, ⟨hk.2, hk.1.2⟩⟩)), (by (with_reducible repeat (first | apply Kd.V_alloc | apply Kd.V_drewN | apply Kd.V_drew)); exact Kd.V_mono HO816.out (fun _ hk => ⟨hk.1.1.1, ⟨hk.2, ⟨hk.1.2, ⟨hk.1.1.2.1, ⟨hk.1.1.2.2.1, ⟨hk.1.1.2.2.2.1, ⟨hk.1.1.2.2.2.2.1, ⟨hk.1.1.2.2.2.2.2.1, hk.1.1.2.2.2.2.2.2⟩⟩⟩⟩⟩⟩⟩⟩)), (by (with_reducible repeat (first | apply Kd.V_alloc | apply Kd.V_drewN | apply Kd.V_drew)); exact Kd.V_mono HO_102.out (fun _ hk => ⟨hk.1.1.1, ⟨hk.2, ⟨hk.1.2, ⟨hk.1.1.2.1, ⟨hk.1.1.2.2.1, ⟨hk.1.1.2.2.2.1, ⟨hk.1.1.2.2.2.2.1, ⟨hk.1.1.2.2.2.2.2.1, hk.1.1.2.2.2.2.2.2⟩⟩⟩⟩⟩⟩⟩⟩)), (by (with_reducible repeat (first | apply Kd.V_alloc | apply Kd.V_drewN | apply Kd.V_drew)); exact Kd.V_mono O8.out (fun _ hk => ⟨hk.1.1.1, ⟨hk.2, ⟨hk.1.2, ⟨hk.1.1.2.1, ⟨hk.1.1.2.2.1, ⟨hk.1.1.2.2.2.1, ⟨hk.1.1.2.2.2.2.1, ⟨hk.1.1.2.2.2.2.2.1, hk.1.1.2.2.2.2.2.2⟩⟩⟩⟩⟩⟩⟩⟩)), (by (with_reducible repeat (first | apply Kd.V_alloc | apply Kd.V_drewN | apply Kd.V_drew)); exact Kd.V_mono O9.out (fun _ hk => ⟨hk.1.1.1, ⟨hk.2, ⟨hk.1.2, ⟨hk.1.1.2.1, ⟨hk.1.1.2.2.1, ⟨hk.1.1.2.2.2.1, ⟨hk.1.1.2.2.2.2.1, ⟨hk.1.1.2.2.2.2.2.1, hk.1.1.2.2.2.2.2.2⟩⟩⟩⟩⟩⟩⟩⟩)), (by (with_reducible repeat (first | apply Kd.R_alloc | apply Kd.R_drewN | apply Kd.R_drew)); exact Kd.R_mono Oy.out (fun _ hk => ⟨hk.1.1, ⟨hk.2, hk.1.2⟩⟩)), (by (with_reducible repeat (first | apply Kd.S_alloc | apply Kd.S_drewN | apply Kd.S_drew)); exact Kd.S_mono Oz.out (fun _ hk => ⟨hk.1.1.1, ⟨hk.2, ⟨hk.1.2, ⟨hk.1.1.2.1, ⟨hk.1.1.2.2.1, ⟨hk.1.1.2.2.2.1, ⟨hk.1.1.2.2.2.2.1, hk.1.1.2.2.2.2.2⟩⟩⟩⟩⟩⟩⟩)), BK767.out, BK768.out, BK769.out, BK781.out, (by repeat (first | exact HB.out | refine below_set ?_ GE769.out | refine below_set ?_ GE781.out))⟩)
            rintro ⟨v807, v810⟩ w104 ⟨hS_, h0_, h1_, h2_, h3_, h4_, h5_, h6_, h7_, h8_, h9_, h10_, h11_, h12_, h13_⟩
            have n0_ : Aside0 (Kd.V (Kd.int .i64) 2 w104 w.heap.size (fun k_ => ((P0_4_ k_ ∨ P1_4_ k_) ∨ w.heap.size ≤ k_) ∧ some k_ ≠ (v807 : Value).ownBlock ∧ some k_ ≠ (v810 : Value).ownBlock ∧ some k_ ≠ (.slice Ao43 y778.length co43 : Value).ownBlock ∧ some k_ ≠ (.slice Ao97 x782004_3.length co97 : Value).ownBlock ∧ k_ ≠ gb767 ∧ k_ ≠ gb768 ∧ k_ ≠ gb769 ∧ k_ ≠ gb781) (.slice (some ad805) (rd_L1 l1_4 x104_3).length c804_0) (rd_L1 l1_4 x104_3)) := ⟨h0_⟩
            have n1_ : Aside0 (Kd.R (Kd.int .i64) 2 w104 w.heap.size (fun k_ => (w.heap.size ≤ k_) ∧ some k_ ≠ (v810 : Value).ownBlock ∧ some k_ ≠ (.slice Ao43 y778.length co43 : Value).ownBlock) v807 y806) := ⟨h1_⟩
            have n2_ : Aside0 (Kd.R (Kd.int .i64) 2 w104 w.heap.size (fun k_ => (w.heap.size ≤ k_) ∧ some k_ ≠ (v807 : Value).ownBlock ∧ some k_ ≠ (.slice Ao43 y778.length co43 : Value).ownBlock) v810 y809) := ⟨h2_⟩
            have n3_ : Aside0 (Kd.V (Kd.int .i64) 2 w104 w.heap.size (fun k_ => ((P0_4_ k_ ∨ P1_4_ k_) ∨ w.heap.size ≤ k_) ∧ some k_ ≠ (v807 : Value).ownBlock ∧ some k_ ≠ (v810 : Value).ownBlock ∧ some k_ ≠ (.slice Ao43 y778.length co43 : Value).ownBlock ∧ some k_ ≠ (.slice Ao97 x782004_3.length co97 : Value).ownBlock ∧ k_ ≠ gb767 ∧ k_ ≠ gb768 ∧ k_ ≠ gb769 ∧ k_ ≠ gb781) (.slice A99 y812.length c99) y812) := ⟨h3_⟩
            have n4_ : Aside0 (Kd.V (Kd.slice 2 (Kd.int .i64)) 35 w104 w.heap.size (fun k_ => ((P0_4_ k_ ∨ P1_4_ k_) ∨ w.heap.size ≤ k_) ∧ some k_ ≠ (v807 : Value).ownBlock ∧ some k_ ≠ (v810 : Value).ownBlock ∧ some k_ ≠ (.slice Ao43 y778.length co43 : Value).ownBlock ∧ some k_ ≠ (.slice Ao97 x782004_3.length co97 : Value).ownBlock ∧ k_ ≠ gb767 ∧ k_ ≠ gb768 ∧ k_ ≠ gb769 ∧ k_ ≠ gb781) (.slice (some ad804) l1_4.length c1_4) l1_4) := ⟨h4_⟩
            have n5_ : Aside0 (Kd.V (Kd.slice 2 (Kd.int .i64)) 35 w104 w.heap.size (fun k_ => ((P0_4_ k_ ∨ P1_4_ k_) ∨ w.heap.size ≤ k_) ∧ some k_ ≠ (v807 : Value).ownBlock ∧ some k_ ≠ (v810 : Value).ownBlock ∧ some k_ ≠ (.slice Ao43 y778.length co43 : Value).ownBlock ∧ some k_ ≠ (.slice Ao97 x782004_3.length co97 : Value).ownBlock ∧ k_ ≠ gb767 ∧ k_ ≠ gb768 ∧ k_ ≠ gb769 ∧ k_ ≠ gb781) (.slice A0_4 l0_4.length c0_4) l0_4) := ⟨h5_⟩
            have n6_ : Aside0 (Kd.V (Kd.slice 2 (Kd.int .i64)) 35 w104 w.heap.size (fun k_ => ((P0_4_ k_ ∨ P1_4_ k_) ∨ w.heap.size ≤ k_) ∧ some k_ ≠ (v807 : Value).ownBlock ∧ some k_ ≠ (v810 : Value).ownBlock ∧ some k_ ≠ (.slice Ao43 y778.length co43 : Value).ownBlock ∧ some k_ ≠ (.slice Ao97 x782004_3.length co97 : Value).ownBlock ∧ k_ ≠ gb767 ∧ k_ ≠ gb768 ∧ k_ ≠ gb769 ∧ k_ ≠ gb781) (.slice (some ad804) l1_4.length c1_4) l1_4) := ⟨h6_⟩
            have n7_ : Aside0 (Kd.R (Kd.int .i64) 2 w104 w.heap.size (fun k_ => (w.heap.size ≤ k_) ∧ some k_ ≠ (v807 : Value).ownBlock ∧ some k_ ≠ (v810 : Value).ownBlock) (.slice Ao43 y778.length co43) y778) := ⟨h7_⟩
            have n8_ : Aside0 (Kd.S (Kd.slice 2 (Kd.int .i64)) 35 w104 w.heap.size (fun k_ => ((P0_4_ k_ ∨ P1_4_ k_) ∨ w.heap.size ≤ k_) ∧ some k_ ≠ (v807 : Value).ownBlock ∧ some k_ ≠ (v810 : Value).ownBlock ∧ some k_ ≠ (.slice Ao43 y778.length co43 : Value).ownBlock ∧ k_ ≠ gb767 ∧ k_ ≠ gb768 ∧ k_ ≠ gb769 ∧ k_ ≠ gb781) (.slice Ao97 x782004_3.length co97) x782004_3) := ⟨h8_⟩
            have n9_ : Aside0 (w104.heap[gb767]? = some (.cells #[.int .i64 a0_0, .slice A0_1 l0_1.length c0_1, .int .i64 a0_2, .int .i64 a0_3, .slice A0_4 l0_4.length c0_4] 53 (0, 0))) := ⟨h9_⟩
            have n10_ : Aside0 (w104.heap[gb768]? = some (.cells #[.int .i64 a1_0, .slice A1_1 l1_1.length c1_1, .int .i64 a1_2, .int .i64 a1_3, .slice (some ad804) l1_4.length c1_4] 53 (0, 0))) := ⟨h10_⟩
            have n11_ : Aside0 (w104.heap[gb769]? = some (.cells #[.int .i64 0, .slice none 0 0, .int .i64 0, .int .i64 0, .slice none 0 0] 53 (0, 0))) := ⟨h11_⟩
            have n12_ : Aside0 (w104.heap[gb781]? = some (.cells #[.int .i64 a0_0, .slice Ao43 y778.length co43, .int .i64 a0_2, .int .i64 (wrap64 ((wrap64 ((wrap64 ((wrap64 ((y772.length : Int) + a0_3)) - 1)) + a1_3)) - 1)), .slice Ao97 x782004_3.length co97] 53 (0, 0))) := ⟨h12_⟩
            have n13_ : Aside0 (Below w.heap.size w w104) := ⟨h13_⟩
            clear HO_102 O8 O9 Oy Oz HL804_0 BK767 BK768 BK769 BK781 HR804_0 HB h0_ h1_ h2_ h3_ h4_ h5_ h6_ h7_ h8_ h9_ h10_ h11_ h12_ h13_
            have HL804_0 := n0_
            have HO808 := n1_
            have HO811 := n2_
            have HO816 := n3_
            have HO_102 := n4_
            have O8 := n5_
            have O9 := n6_
            have Oy := n7_
            have Oz := n8_
            have BK767 := n9_
            have BK768 := n10_
            have BK769 := n11_
            have BK781 := n12_
            have HB := n13_
            clear n0_ n1_ n2_ n3_ n4_ n5_ n6_ n7_ n8_ n9_ n10_ n11_ n12_ n13_
            have hHeld : w104.cell? ⟨gb781, 0, none⟩ = some (.int .i64 a0_0) ∧ w104.cell? ⟨gb781, 1, none⟩ = some (.slice Ao43 y778.length co43) ∧ w104.cell? ⟨gb781, 2, none⟩ = some (.int .i64 a0_2) ∧ w104.cell? ⟨gb781, 3, none⟩ = some (.int .i64 (wrap64 ((wrap64 ((wrap64 ((wrap64 ((y772.length : Int) + a0_3)) - 1)) + a1_3)) - 1))) ∧ w104.cell? ⟨gb781, 4, none⟩ = some (.slice Ao97 x782004_3.length co97) ∧ w104.cell? ⟨gb767, 0, none⟩ = some (.int .i64 a0_0) ∧ w104.cell? ⟨gb767, 1, none⟩ = some (.slice A0_1 l0_1.length c0_1) ∧ w104.cell? ⟨gb767, 2, none⟩ = some (.int .i64 a0_2) ∧ w104.cell? ⟨gb767, 3, none⟩ = some (.int .i64 a0_3) ∧ w104.cell? ⟨gb767, 4, none⟩ = some (.slice A0_4 l0_4.length c0_4) ∧ w104.cell? ad805 = some (.int .i64 (rd (rd_L1 l1_4 x104_3) 0)) := hS_
            obtain ⟨Ao105, co105, eo105⟩ := Kd.R_slice HO808.out
            subst eo105
            obtain ⟨Ao106, co106, eo106⟩ := Kd.R_slice HO811.out
            subst eo106
            refine norm_ (a' := ?_) ?_ ?_
            rotate_left
            ·simp only [putAll, Act.put, List.setIfInBounds_toArray, List.set_cons_zero, List.set_cons_succ]
             rfl
            refine one_ (i := 15) (N := some 123) #[Y,Y,Y,Y,Y,Y,Y,Y,Y,Y,Y,Y,Y,Y,Y,Y,Z,Z,Z,Z,Z,Z] rfl rfl (one_of HT_.out (by kernel_rfl)) (by decide) (fun K hK => ?_)
            refine Kd.N_lit_step (Kd.slice 2 (Kd.int .i64)) _ 35 ?hg (N' := 123) ?hd (xs := ([y806, y809, y812] : List (List Int))) (inner := [.slice Ao105 y806.length co105, .slice Ao106 y809.length co106, .slice A99 y812.length c99]) (ok := (fun k_ => ((P0_4_ k_ ∨ P1_4_ k_) ∨ w.heap.size ≤ k_) ∧ some k_ ≠ (.slice Ao43 y778.length co43 : Value).ownBlock ∧ some k_ ≠ (.slice Ao97 x782004_3.length co97 : Value).ownBlock ∧ k_ ≠ gb767 ∧ k_ ≠ gb768 ∧ k_ ≠ gb769 ∧ k_ ≠ gb781)) (okp := (fun k_ => ((P0_4_ k_ ∨ P1_4_ k_) ∨ w.heap.size ≤ k_) ∧ some k_ ≠ (.slice Ao43 y778.length co43 : Value).ownBlock ∧ some k_ ≠ (.slice Ao97 x782004_3.length co97 : Value).ownBlock ∧ k_ ≠ gb767 ∧ k_ ≠ gb768 ∧ k_ ≠ gb769 ∧ k_ ≠ gb781)) ?hr ?hp (fun _ hk => hk) ((show ∀ k_, w104.heap.size ≤ k_ → (fun k_ => ((P0_4_ k_ ∨ P1_4_ k_) ∨ w.heap.size ≤ k_) ∧ some k_ ≠ (.slice Ao43 y778.length co43 : Value).ownBlock ∧ some k_ ≠ (.slice Ao97 x782004_3.length co97 : Value).ownBlock ∧ k_ ≠ gb767 ∧ k_ ≠ gb768 ∧ k_ ≠ gb769 ∧ k_ ≠ gb781) k_ from fun k_ hk => ⟨(.inr (Nat.le_trans (below_size HB.out) hk)), Kd.fresh' (Kd.R_lt Oy.out) k_ hk, Kd.fresh' (Kd.S_lt Oz.out) k_ hk, Kd.freshB (g := gb767) (o := .cells #[.int .i64 a0_0, .slice A0_1 l0_1.length c0_1, .int .i64 a0_2, .int .i64 a0_3, .slice A0_4 l0_4.length c0_4] 53 (0, 0)) BK767.out k_ hk, Kd.freshB (g := gb768) (o := .cells #[.int .i64 a1_0, .slice A1_1 l1_1.length c1_1, .int .i64 a1_2, .int .i64 a1_3, .slice (some ad804) l1_4.length c1_4] 53 (0, 0)) BK768.out k_ hk, Kd.freshB (g := gb769) (o := .cells #[.int .i64 0, .slice none 0 0, .int .i64 0, .int .i64 0, .slice none 0 0] 53 (0, 0)) BK769.out k_ hk, Kd.freshB (g := gb781) (o := .cells #[.int .i64 a0_0, .slice Ao43 y778.length co43, .int .i64 a0_2, .int .i64 (wrap64 ((wrap64 ((wrap64 ((wrap64 ((y772.length : Int) + a0_3)) - 1)) + a1_3)) - 1)), .slice Ao97 x782004_3.length co97] 53 (0, 0)) BK781.out k_ hk⟩) _ (Nat.le_refl _)) (Below.refl _ _) (Nat.le_refl _) (by simp) ?_; (case hd => rfl); (case hg => rfl); (case hr => first | (go_simp; done) | (go_simp; rfl)); (case hp => exact (Reps.one (show Kd.FK (Kd.slice 2 (Kd.int .i64)) _ _ y806 [.slice Ao105 y806.length co105] from (Kd.FK_slice_mk (Kd.R_reads' (Kd.R_mono (ok' := (fun k_ => ((P0_4_ k_ ∨ P1_4_ k_) ∨ w.heap.size ≤ k_) ∧ some k_ ≠ (.slice Ao43 y778.length co43 : Value).ownBlock ∧ some k_ ≠ (.slice Ao97 x782004_3.length co97 : Value).ownBlock ∧ k_ ≠ gb767 ∧ k_ ≠ gb768 ∧ k_ ≠ gb769 ∧ k_ ≠ gb781)) (Kd.R_types (Kd.R_types (Kd.R_types (Kd.R_types (Kd.R_apart' (HO808.out) (Kd.S_typed Oz.out) (by decide)) BK767.out (by decide)) BK768.out (by decide)) BK769.out (by decide)) BK781.out (by decide)) (fun k_ hk => ⟨(.inr (hk.1.1.1.1.1.1)), ⟨hk.1.1.1.1.1.2.2, ⟨hk.1.1.1.1.2, ⟨hk.1.1.1.2, ⟨hk.1.1.2, ⟨hk.1.2, hk.2⟩⟩⟩⟩⟩⟩))).2.1 (Kd.R_F (Kd.R_mono (ok' := (fun k_ => ((P0_4_ k_ ∨ P1_4_ k_) ∨ w.heap.size ≤ k_) ∧ some k_ ≠ (.slice Ao43 y778.length co43 : Value).ownBlock ∧ some k_ ≠ (.slice Ao97 x782004_3.length co97 : Value).ownBlock ∧ k_ ≠ gb767 ∧ k_ ≠ gb768 ∧ k_ ≠ gb769 ∧ k_ ≠ gb781)) (Kd.R_types (Kd.R_types (Kd.R_types (Kd.R_types (Kd.R_apart' (HO808.out) (Kd.S_typed Oz.out) (by decide)) BK767.out (by decide)) BK768.out (by decide)) BK769.out (by decide)) BK781.out (by decide)) (fun k_ hk => ⟨(.inr (hk.1.1.1.1.1.1)), ⟨hk.1.1.1.1.1.2.2, ⟨hk.1.1.1.1.2, ⟨hk.1.1.1.2, ⟨hk.1.1.2, ⟨hk.1.2, hk.2⟩⟩⟩⟩⟩⟩))))) (Reps.one (show Kd.FK (Kd.slice 2 (Kd.int .i64)) _ _ y809 [.slice Ao106 y809.length co106] from (Kd.FK_slice_mk (Kd.R_reads' (Kd.R_mono (ok' := (fun k_ => ((P0_4_ k_ ∨ P1_4_ k_) ∨ w.heap.size ≤ k_) ∧ some k_ ≠ (.slice Ao43 y778.length co43 : Value).ownBlock ∧ some k_ ≠ (.slice Ao97 x782004_3.length co97 : Value).ownBlock ∧ k_ ≠ gb767 ∧ k_ ≠ gb768 ∧ k_ ≠ gb769 ∧ k_ ≠ gb781)) (Kd.R_types (Kd.R_types (Kd.R_types (Kd.R_types (Kd.R_apart' (HO811.out) (Kd.S_typed Oz.out) (by decide)) BK767.out (by decide)) BK768.out (by decide)) BK769.out (by decide)) BK781.out (by decide)) (fun k_ hk => ⟨(.inr (hk.1.1.1.1.1.1)), ⟨hk.1.1.1.1.1.2.2, ⟨hk.1.1.1.1.2, ⟨hk.1.1.1.2, ⟨hk.1.1.2, ⟨hk.1.2, hk.2⟩⟩⟩⟩⟩⟩))).2.1 (Kd.R_F (Kd.R_mono (ok' := (fun k_ => ((P0_4_ k_ ∨ P1_4_ k_) ∨ w.heap.size ≤ k_) ∧ some k_ ≠ (.slice Ao43 y778.length co43 : Value).ownBlock ∧ some k_ ≠ (.slice Ao97 x782004_3.length co97 : Value).ownBlock ∧ k_ ≠ gb767 ∧ k_ ≠ gb768 ∧ k_ ≠ gb769 ∧ k_ ≠ gb781)) (Kd.R_types (Kd.R_types (Kd.R_types (Kd.R_types (Kd.R_apart' (HO811.out) (Kd.S_typed Oz.out) (by decide)) BK767.out (by decide)) BK768.out (by decide)) BK769.out (by decide)) BK781.out (by decide)) (fun k_ hk => ⟨(.inr (hk.1.1.1.1.1.1)), ⟨hk.1.1.1.1.1.2.2, ⟨hk.1.1.1.1.2, ⟨hk.1.1.1.2, ⟨hk.1.1.2, ⟨hk.1.2, hk.2⟩⟩⟩⟩⟩⟩))))) (Reps.one (show Kd.FK (Kd.slice 2 (Kd.int .i64)) _ _ y812 [.slice A99 y812.length c99] from (Kd.FK_slice_mk (Kd.V_reads' (Kd.V_mono (ok' := (fun k_ => ((P0_4_ k_ ∨ P1_4_ k_) ∨ w.heap.size ≤ k_) ∧ some k_ ≠ (.slice Ao43 y778.length co43 : Value).ownBlock ∧ some k_ ≠ (.slice Ao97 x782004_3.length co97 : Value).ownBlock ∧ k_ ≠ gb767 ∧ k_ ≠ gb768 ∧ k_ ≠ gb769 ∧ k_ ≠ gb781)) (HO816.out) (fun k_ hk => ⟨hk.1, ⟨hk.2.2.2.1, ⟨hk.2.2.2.2.1, ⟨hk.2.2.2.2.2.1, ⟨hk.2.2.2.2.2.2.1, ⟨hk.2.2.2.2.2.2.2.1, hk.2.2.2.2.2.2.2.2⟩⟩⟩⟩⟩⟩))).2.1 (Kd.V_F (Kd.V_mono (ok' := (fun k_ => ((P0_4_ k_ ∨ P1_4_ k_) ∨ w.heap.size ≤ k_) ∧ some k_ ≠ (.slice Ao43 y778.length co43 : Value).ownBlock ∧ some k_ ≠ (.slice Ao97 x782004_3.length co97 : Value).ownBlock ∧ k_ ≠ gb767 ∧ k_ ≠ gb768 ∧ k_ ≠ gb769 ∧ k_ ≠ gb781)) (HO816.out) (fun k_ hk => ⟨hk.1, ⟨hk.2.2.2.1, ⟨hk.2.2.2.2.1, ⟨hk.2.2.2.2.2.1, ⟨hk.2.2.2.2.2.2.1, ⟨hk.2.2.2.2.2.2.2.1, hk.2.2.2.2.2.2.2.2⟩⟩⟩⟩⟩⟩))))) (Reps.none _ _)))))
            intro v818 w107 ho108 hb hg_ hnew_
            have HS10_ := (hb.cell (World.block_lt_of_cell? _ _ (hHeld.2.2.2.2.2.2.2.2.2.2))).trans (hHeld.2.2.2.2.2.2.2.2.2.2)
            clear hg_ hnew_
            rw [← Ny817.out] at ho108
            have n0_ := Aside0.mk (Kd.V_elder' HO_102.out (by first | exact Kd.N_base ho108 | exact Kd.N_base (Kd.S_N ho108)) hb)
            have n1_ := Aside0.mk (Kd.V_elder' O8.out (by first | exact Kd.N_base ho108 | exact Kd.N_base (Kd.S_N ho108)) hb)
            have n2_ := Aside0.mk (Kd.V_elder' O9.out (by first | exact Kd.N_base ho108 | exact Kd.N_base (Kd.S_N ho108)) hb)
            have n3_ := Aside0.mk (Kd.R_below Oy.out hb)
            have n4_ := Aside0.mk (Kd.S_elder' Oz.out (by first | exact Kd.N_base ho108 | exact Kd.N_base (Kd.S_N ho108)) hb)
            have n5_ := Aside0.mk (Kd.V_elder' HL804_0.out (by first | exact Kd.N_base ho108 | exact Kd.N_base (Kd.S_N ho108)) hb)
            have n6_ := Aside0.mk (Kd.V_elder' HO816.out (by first | exact Kd.N_base ho108 | exact Kd.N_base (Kd.S_N ho108)) hb)
            have n7_ := Aside0.mk (Kd.N_lower ho108 (below_size HB.out))
            have n8_ := Aside0.mk (blk_below BK767.out hb)
            have n9_ := Aside0.mk (blk_below BK768.out hb)
            have n10_ := Aside0.mk (blk_below BK769.out hb)
            have n11_ := Aside0.mk (blk_below BK781.out hb)
            have n12_ := Aside0.mk (below_step HB.out hb)
            clear HO_102 O8 O9 Oy Oz HL804_0 HO816 BK767 BK768 BK769 BK781 HB HO808 HO811
            have HO_102 := n0_
            have O8 := n1_
            have O9 := n2_
            have Oy := n3_
            have Oz := n4_
            have HL804_0 := n5_
            have HO816 := n6_
            have HO819 := n7_
            have BK767 := n8_
            have BK768 := n9_
            have BK769 := n10_
            have BK781 := n11_
            have HB := n12_
            clear n0_ n1_ n2_ n3_ n4_ n5_ n6_ n7_ n8_ n9_ n10_ n11_ n12_ hb ho108
            obtain ⟨Ao109, co109, eo109⟩ := Kd.N_slice HO819.out
            subst eo109
            refine hK.out _ _ ⟨(blk_cell BK781.out 0).trans rfl, (blk_cell BK781.out 1).trans rfl, (blk_cell BK781.out 2).trans rfl, (blk_cell BK781.out 3).trans rfl, (blk_cell BK781.out 4).trans rfl, (blk_cell BK767.out 0).trans rfl, (blk_cell BK767.out 1).trans rfl, (blk_cell BK767.out 2).trans rfl, (blk_cell BK767.out 3).trans rfl, (blk_cell BK767.out 4).trans rfl, HS10_⟩ (fun hHeld => ?_)
            clear hK K
            refine norm_ (a' := ?_) ?_ ?_
            rotate_left
            ·show Act.put _ (some 123) _ = _
             simp only [Act.put, List.setIfInBounds_toArray, List.set_cons_zero, List.set_cons_succ, i64_w]
             rfl
            refine one_ (i := 16) (N := some 124) #[Y,Y,Y,Y,Y,Y,Y,Y,Y,Y,Y,Y,Y,Y,Y,Y,Y,Z,Z,Z,Z,Z] rfl rfl (one_of HT_.out (by kernel_rfl)) (by decide) (fun K hK => ?_)
            refine goes_ Try.func108 (by kernel_rfl) rfl #[.slice Ao109 y817.length co109] (by rfl) rfl rfl (by (try simp only [List.map_toArray, List.map_cons, List.map_nil]); first | done | rfl | (simp only [List.length_drop, List.length_take]; rfl)) ?_
            with_reducible refine (slices_Concat_int64_int64.calls k3 _ _ y817 t820 _ ?side1 ?side2 A95.out).mono ?_
            (case side1 => repeat (first | exact (Kd.N_reads' HO819.out).2.2 | (with_reducible refine Kd.C_alloc ?_ _) | (with_reducible refine Kd.C_drewN ?_ _) | (with_reducible refine Kd.C_drew ?_)))
            (case side2 => exact (Kd.N_reads' HO819.out).2.1)
            rintro e w110 ⟨v821, rfl, ho0, hb⟩
            have HS10_ := (hb.cell (World.block_lt_of_cell? _ _ (hHeld.2.2.2.2.2.2.2.2.2.2))).trans (hHeld.2.2.2.2.2.2.2.2.2.2)
            refine ⟨_, rfl, ?_⟩
            have n0_ := Aside0.mk (Kd.V_elder' HO_102.out (Kd.R_base ho0) hb)
            have n1_ := Aside0.mk (Kd.V_elder' O8.out (Kd.R_base ho0) hb)
            have n2_ := Aside0.mk (Kd.V_elder' O9.out (Kd.R_base ho0) hb)
            have n3_ := Aside0.mk (Kd.R_elder' Oy.out (Kd.R_base ho0) hb)
            have n4_ := Aside0.mk (Kd.S_elder' Oz.out (Kd.R_base ho0) hb)
            have n5_ := Aside0.mk (Kd.V_elder' HL804_0.out (Kd.R_base ho0) hb)
            have n6_ := Aside0.mk (Kd.V_elder' HO816.out (Kd.R_base ho0) hb)
            have n7_ := Aside0.mk (Kd.N_elder' HO819.out (Kd.R_base ho0) hb)
            have n8_ := Aside0.mk (Kd.R_lower (Kd.R_new' (Kd.R_newM (M := fun k_ => (w.heap.size ≤ k_)) ho0 (below_size HB.out) (fun k_ h_ => h_)) (Kd.R_lt Oy.out)) (below_size HB.out))
            have n9_ := Aside0.mk (blk_below BK767.out hb)
            have n10_ := Aside0.mk (blk_below BK768.out hb)
            have n11_ := Aside0.mk (blk_below BK769.out hb)
            have n12_ := Aside0.mk (blk_below BK781.out hb)
            have n13_ := Aside0.mk (below_step HB.out hb)
            clear HO_102 O8 O9 Oy Oz HL804_0 HO816 HO819 BK767 BK768 BK769 BK781 HB
            have HO_102 := n0_
            have O8 := n1_
            have O9 := n2_
            have Oy := n3_
            have Oz := n4_
            have HL804_0 := n5_
            have HO816 := n6_
            have HO819 := n7_
            have HO822 := n8_
            have BK767 := n9_
            have BK768 := n10_
            have BK769 := n11_
            have BK781 := n12_
            have HB := n13_
            clear n0_ n1_ n2_ n3_ n4_ n5_ n6_ n7_ n8_ n9_ n10_ n11_ n12_ n13_
            (try clear hb)
            (try clear hb2)
            (try clear hk)
            (try clear hi)
            (try clear ho0)
            obtain ⟨Ao112, co112, eo112⟩ := Kd.R_slice HO822.out
            subst eo112
            refine hK.out _ _ ⟨(blk_cell BK781.out 0).trans rfl, (blk_cell BK781.out 1).trans rfl, (blk_cell BK781.out 2).trans rfl, (blk_cell BK781.out 3).trans rfl, (blk_cell BK781.out 4).trans rfl, (blk_cell BK767.out 0).trans rfl, (blk_cell BK767.out 1).trans rfl, (blk_cell BK767.out 2).trans rfl, (blk_cell BK767.out 3).trans rfl, (blk_cell BK767.out 4).trans rfl, HS10_⟩ (fun hHeld => ?_)
            clear hK K
            refine norm_ (a' := ?_) ?_ ?_
            rotate_left
            ·show Act.put _ (some 124) _ = _
             simp only [Act.put, List.setIfInBounds_toArray, List.set_cons_zero, List.set_cons_succ, i64_w]
             rfl
            refine one_ (i := 17) (N := some 125) #[Y,Y,Y,Y,Y,Y,Y,Y,Y,Y,Y,Y,Y,Y,Y,Y,Y,Y,Z,Z,Z,Z] rfl rfl (one_of HT_.out (by kernel_rfl)) (by decide) (fun K hK => ?_)
            refine value_ (w1 := ?_) (v := ?_) (by rfl) rfl ?_ ?_
            rotate_left 2
            ·go_simp
             constructor
             ·rfl
             ·rfl
            refine hK.out _ _ ⟨(blk_cell (blk_alloc BK781.out _) 0).trans rfl, (blk_cell (blk_alloc BK781.out _) 1).trans rfl, (blk_cell (blk_alloc BK781.out _) 2).trans rfl, (blk_cell (blk_alloc BK781.out _) 3).trans rfl, (blk_cell (blk_alloc BK781.out _) 4).trans rfl, (blk_cell (blk_alloc BK767.out _) 0).trans rfl, (blk_cell (blk_alloc BK767.out _) 1).trans rfl, (blk_cell (blk_alloc BK767.out _) 2).trans rfl, (blk_cell (blk_alloc BK767.out _) 3).trans rfl, (blk_cell (blk_alloc BK767.out _) 4).trans rfl, (World.cell?_alloc_lt _ _ _ (World.block_lt_of_cell? _ _ (hHeld.2.2.2.2.2.2.2.2.2.2))).trans (hHeld.2.2.2.2.2.2.2.2.2.2)⟩ (fun hHeld => ?_)
            clear hK K
            refine norm_ (a' := ?_) ?_ ?_
            rotate_left
            ·show Act.put _ (some 125) _ = _
             simp only [Act.put, List.setIfInBounds_toArray, List.set_cons_zero, List.set_cons_succ, i64_w]
             rfl
            refine last_ (i := 18) (N := some 126) #[Y,Y,Y,Y,Y,Y,Y,Y,Y,Y,Y,Y,Y,Y,Y,Y,Y,Y,Y,Z,Z,Z] rfl rfl (one_of HT_.out (by kernel_rfl)) (by decide) (fun K hK => ?_)
            refine Kd.S_append_step (Kd.slice 2 (Kd.int .i64)) (w0 := w) w.heap.size (by rfl) (.tmp 110) (.tmp 125) 22 35 (.slice none 0 0) 24 rfl Try.underlying22 info35 rfl (by decide) (by omega) (.slice Ao97 x782004_3.length co97) x782004_3 t820 [.slice Ao112 t820.length co112] (fun k_ => ((P0_4_ k_ ∨ P1_4_ k_) ∨ w.heap.size ≤ k_) ∧ some k_ ≠ (.slice Ao43 y778.length co43 : Value).ownBlock ∧ some k_ ≠ (.slice Ao109 y817.length co109 : Value).ownBlock ∧ k_ ≠ gb767 ∧ k_ ≠ gb768 ∧ k_ ≠ gb769 ∧ k_ ≠ gb781) (fun k_ => some k_ = (.slice Ao112 t820.length co112 : Value).ownBlock) rfl rfl ?aP (fun k_ hk_ => (Kd.R_mono (ok' := (fun k_ => ((fun k_ => ((P0_4_ k_ ∨ P1_4_ k_) ∨ w.heap.size ≤ k_) ∧ some k_ ≠ (.slice Ao43 y778.length co43 : Value).ownBlock ∧ some k_ ≠ (.slice Ao109 y817.length co109 : Value).ownBlock ∧ k_ ≠ gb767 ∧ k_ ≠ gb768 ∧ k_ ≠ gb769 ∧ k_ ≠ gb781)) k_ ∧ some k_ ≠ (.slice Ao97 x782004_3.length co97 : Value).ownBlock)) (Kd.R_types (Kd.R_types (Kd.R_types (Kd.R_types (Kd.R_apart' (Kd.R_apart' (HO822.out) (Kd.N_typed HO819.out) (by decide)) (Kd.S_typed Oz.out) (by decide)) BK767.out (by decide)) BK768.out (by decide)) BK769.out (by decide)) BK781.out (by decide)) (fun k_ hk => ⟨⟨(.inr (hk.1.1.1.1.1.1.1.1)), ⟨hk.1.1.1.1.1.1.2, ⟨hk.1.1.1.1.1.2, ⟨hk.1.1.1.2, ⟨hk.1.1.2, ⟨hk.1.2, hk.2⟩⟩⟩⟩⟩⟩, hk.1.1.1.1.2⟩)).1 k_ hk_.symm) ?aF ?aO ?aB ?aS ?aL ?_
            (case aP => exact Kd.M_row (Kd.R_mono (Kd.R_tight rfl (Kd.R_mono (ok' := (fun k_ => ((fun k_ => ((P0_4_ k_ ∨ P1_4_ k_) ∨ w.heap.size ≤ k_) ∧ some k_ ≠ (.slice Ao43 y778.length co43 : Value).ownBlock ∧ some k_ ≠ (.slice Ao109 y817.length co109 : Value).ownBlock ∧ k_ ≠ gb767 ∧ k_ ≠ gb768 ∧ k_ ≠ gb769 ∧ k_ ≠ gb781)) k_ ∧ some k_ ≠ (.slice Ao97 x782004_3.length co97 : Value).ownBlock)) (Kd.R_types (Kd.R_types (Kd.R_types (Kd.R_types (Kd.R_apart' (Kd.R_apart' (HO822.out) (Kd.N_typed HO819.out) (by decide)) (Kd.S_typed Oz.out) (by decide)) BK767.out (by decide)) BK768.out (by decide)) BK769.out (by decide)) BK781.out (by decide)) (fun k_ hk => ⟨⟨(.inr (hk.1.1.1.1.1.1.1.1)), ⟨hk.1.1.1.1.1.1.2, ⟨hk.1.1.1.1.1.2, ⟨hk.1.1.1.2, ⟨hk.1.1.2, ⟨hk.1.2, hk.2⟩⟩⟩⟩⟩⟩, hk.1.1.1.1.2⟩))) (fun _ h_ => h_)))
            (case aB => exact (by repeat (first | exact HB.out | refine below_set ?_ GE769.out | refine below_set ?_ GE781.out)))
            (case aF => exact (fun k_ hk => ⟨(.inr (Nat.le_trans (below_size HB.out) hk)), Kd.fresh' (Kd.R_lt Oy.out) k_ hk, Kd.fresh' (Kd.N_lt HO819.out) k_ hk, Kd.freshB (g := gb767) (o := .cells #[.int .i64 a0_0, .slice A0_1 l0_1.length c0_1, .int .i64 a0_2, .int .i64 a0_3, .slice A0_4 l0_4.length c0_4] 53 (0, 0)) BK767.out k_ hk, Kd.freshB (g := gb768) (o := .cells #[.int .i64 a1_0, .slice A1_1 l1_1.length c1_1, .int .i64 a1_2, .int .i64 a1_3, .slice (some ad804) l1_4.length c1_4] 53 (0, 0)) BK768.out k_ hk, Kd.freshB (g := gb769) (o := .cells #[.int .i64 0, .slice none 0 0, .int .i64 0, .int .i64 0, .slice none 0 0] 53 (0, 0)) BK769.out k_ hk, Kd.freshB (g := gb781) (o := .cells #[.int .i64 a0_0, .slice Ao43 y778.length co43, .int .i64 a0_2, .int .i64 (wrap64 ((wrap64 ((wrap64 ((wrap64 ((y772.length : Int) + a0_3)) - 1)) + a1_3)) - 1)), .slice Ao97 x782004_3.length co97] 53 (0, 0)) BK781.out k_ hk⟩))
            (case aO => exact (by (with_reducible repeat (first | apply Kd.S_alloc | apply Kd.S_drewN | apply Kd.S_drew)); exact Kd.S_mono Oz.out (fun _ hk => ⟨⟨hk.1.1.1, ⟨hk.1.1.2.2.2.1, ⟨hk.1.2, ⟨hk.1.1.2.2.2.2.1, ⟨hk.1.1.2.2.2.2.2.1, ⟨hk.1.1.2.2.2.2.2.2.1, hk.1.1.2.2.2.2.2.2.2⟩⟩⟩⟩⟩⟩, hk.2⟩)))
            (case aS => exact (below_size HB.out))
            (case aL => have := LMc96.out; omega)
            intro v824 w111 ho hb hg hat
            rw [← Ny823.out] at ho
            have n0_ := Aside0.mk (Kd.V_afterv (ok := (fun k_ => ((P0_4_ k_ ∨ P1_4_ k_) ∨ w.heap.size ≤ k_) ∧ some k_ ≠ (.slice Ao43 y778.length co43 : Value).ownBlock ∧ some k_ ≠ (.slice Ao109 y817.length co109 : Value).ownBlock ∧ some k_ ≠ (.slice Ao112 t820.length co112 : Value).ownBlock ∧ k_ ≠ gb767 ∧ k_ ≠ gb768 ∧ k_ ≠ gb769 ∧ k_ ≠ gb781)) (by (with_reducible repeat (first | apply Kd.V_alloc | apply Kd.V_drewN | apply Kd.V_drew)); exact Kd.V_mono HO_102.out (fun _ hk => ⟨⟨hk.1.1.1, ⟨hk.1.1.2.2.2.1, ⟨hk.1.2, ⟨hk.2, ⟨hk.1.1.2.2.2.2.2.1, ⟨hk.1.1.2.2.2.2.2.2.1, ⟨hk.1.1.2.2.2.2.2.2.2.1, hk.1.1.2.2.2.2.2.2.2.2⟩⟩⟩⟩⟩⟩⟩, hk.1.1.2.2.2.2.1⟩)) hg hat)
            have n1_ := Aside0.mk (Kd.V_afterv (ok := (fun k_ => ((P0_4_ k_ ∨ P1_4_ k_) ∨ w.heap.size ≤ k_) ∧ some k_ ≠ (.slice Ao43 y778.length co43 : Value).ownBlock ∧ some k_ ≠ (.slice Ao109 y817.length co109 : Value).ownBlock ∧ some k_ ≠ (.slice Ao112 t820.length co112 : Value).ownBlock ∧ k_ ≠ gb767 ∧ k_ ≠ gb768 ∧ k_ ≠ gb769 ∧ k_ ≠ gb781)) (by (with_reducible repeat (first | apply Kd.V_alloc | apply Kd.V_drewN | apply Kd.V_drew)); exact Kd.V_mono O8.out (fun _ hk => ⟨⟨hk.1.1.1, ⟨hk.1.1.2.2.2.1, ⟨hk.1.2, ⟨hk.2, ⟨hk.1.1.2.2.2.2.2.1, ⟨hk.1.1.2.2.2.2.2.2.1, ⟨hk.1.1.2.2.2.2.2.2.2.1, hk.1.1.2.2.2.2.2.2.2.2⟩⟩⟩⟩⟩⟩⟩, hk.1.1.2.2.2.2.1⟩)) hg hat)
            have n2_ := Aside0.mk (Kd.V_afterv (ok := (fun k_ => ((P0_4_ k_ ∨ P1_4_ k_) ∨ w.heap.size ≤ k_) ∧ some k_ ≠ (.slice Ao43 y778.length co43 : Value).ownBlock ∧ some k_ ≠ (.slice Ao109 y817.length co109 : Value).ownBlock ∧ some k_ ≠ (.slice Ao112 t820.length co112 : Value).ownBlock ∧ k_ ≠ gb767 ∧ k_ ≠ gb768 ∧ k_ ≠ gb769 ∧ k_ ≠ gb781)) (by (with_reducible repeat (first | apply Kd.V_alloc | apply Kd.V_drewN | apply Kd.V_drew)); exact Kd.V_mono O9.out (fun _ hk => ⟨⟨hk.1.1.1, ⟨hk.1.1.2.2.2.1, ⟨hk.1.2, ⟨hk.2, ⟨hk.1.1.2.2.2.2.2.1, ⟨hk.1.1.2.2.2.2.2.2.1, ⟨hk.1.1.2.2.2.2.2.2.2.1, hk.1.1.2.2.2.2.2.2.2.2⟩⟩⟩⟩⟩⟩⟩, hk.1.1.2.2.2.2.1⟩)) hg hat)
            have n3_ := Aside0.mk (Kd.R_over' Oy.out (Kd.S_typed Oz.out) (by decide) hg)
            have n4_ := Aside0.mk (blk_grown BK767.out hg (Kd.S_ne Oz.out BK767.out (by decide)))
            have n5_ := Aside0.mk (blk_grown BK768.out hg (Kd.S_ne Oz.out BK768.out (by decide)))
            have n6_ := Aside0.mk (blk_grown BK769.out hg (Kd.S_ne Oz.out BK769.out (by decide)))
            have n7_ := Aside0.mk (blk_grown BK781.out hg (Kd.S_ne Oz.out BK781.out (by decide)))
            have n8_ := Aside0.mk (Kd.V_afterv (ok := (fun k_ => ((P0_4_ k_ ∨ P1_4_ k_) ∨ w.heap.size ≤ k_) ∧ some k_ ≠ (.slice Ao43 y778.length co43 : Value).ownBlock ∧ some k_ ≠ (.slice Ao109 y817.length co109 : Value).ownBlock ∧ some k_ ≠ (.slice Ao112 t820.length co112 : Value).ownBlock ∧ k_ ≠ gb767 ∧ k_ ≠ gb768 ∧ k_ ≠ gb769 ∧ k_ ≠ gb781)) (by (with_reducible repeat (first | apply Kd.V_alloc | apply Kd.V_drewN | apply Kd.V_drew)); exact Kd.V_mono HL804_0.out (fun _ hk => ⟨⟨hk.1.1.1, ⟨hk.1.1.2.2.2.1, ⟨hk.1.2, ⟨hk.2, ⟨hk.1.1.2.2.2.2.2.1, ⟨hk.1.1.2.2.2.2.2.2.1, ⟨hk.1.1.2.2.2.2.2.2.2.1, hk.1.1.2.2.2.2.2.2.2.2⟩⟩⟩⟩⟩⟩⟩, hk.1.1.2.2.2.2.1⟩)) hg hat)
            have n9_ := Aside0.mk (Kd.V_afterv (ok := (fun k_ => ((P0_4_ k_ ∨ P1_4_ k_) ∨ w.heap.size ≤ k_) ∧ some k_ ≠ (.slice Ao43 y778.length co43 : Value).ownBlock ∧ some k_ ≠ (.slice Ao109 y817.length co109 : Value).ownBlock ∧ some k_ ≠ (.slice Ao112 t820.length co112 : Value).ownBlock ∧ k_ ≠ gb767 ∧ k_ ≠ gb768 ∧ k_ ≠ gb769 ∧ k_ ≠ gb781)) (by (with_reducible repeat (first | apply Kd.V_alloc | apply Kd.V_drewN | apply Kd.V_drew)); exact Kd.V_mono HO816.out (fun _ hk => ⟨⟨hk.1.1.1, ⟨hk.1.1.2.2.2.1, ⟨hk.1.2, ⟨hk.2, ⟨hk.1.1.2.2.2.2.2.1, ⟨hk.1.1.2.2.2.2.2.2.1, ⟨hk.1.1.2.2.2.2.2.2.2.1, hk.1.1.2.2.2.2.2.2.2.2⟩⟩⟩⟩⟩⟩⟩, hk.1.1.2.2.2.2.1⟩)) hg hat)
            have n10_ := Aside0.mk (Kd.N_afterv (ok := (fun k_ => ((P0_4_ k_ ∨ P1_4_ k_) ∨ w.heap.size ≤ k_) ∧ some k_ ≠ (.slice Ao43 y778.length co43 : Value).ownBlock ∧ some k_ ≠ (.slice Ao112 t820.length co112 : Value).ownBlock ∧ k_ ≠ gb767 ∧ k_ ≠ gb768 ∧ k_ ≠ gb769 ∧ k_ ≠ gb781)) (by (with_reducible repeat (first | apply Kd.N_alloc | apply Kd.N_drewN | apply Kd.N_drew)); exact Kd.N_mono HO819.out (fun _ hk => ⟨⟨hk.1.1, ⟨hk.1.2.1, ⟨hk.2, ⟨hk.1.2.2.2.1, ⟨hk.1.2.2.2.2.1, ⟨hk.1.2.2.2.2.2.1, hk.1.2.2.2.2.2.2⟩⟩⟩⟩⟩⟩, hk.1.2.2.1⟩)) hg hat)
            have n11_ := Aside0.mk (hb)
            have n12_ := Aside0.mk (ho)
            clear HO_102 O8 O9 Oy BK767 BK768 BK769 BK781 HL804_0 HO816 HO819 HB Oz HO822
            have HO_102 := n0_
            have O8 := n1_
            have O9 := n2_
            have Oy := n3_
            have BK767 := n4_
            have BK768 := n5_
            have BK769 := n6_
            have BK781 := n7_
            have HL804_0 := n8_
            have HO816 := n9_
            have HO819 := n10_
            have HB := n11_
            have HO825 := n12_
            clear n0_ n1_ n2_ n3_ n4_ n5_ n6_ n7_ n8_ n9_ n10_ n11_ n12_ ho hb hg hat
            obtain ⟨Ao113, co113, eo113⟩ := Kd.S_slice HO825.out
            subst eo113
            refine hK.out _ _ ?_
            clear hK K
            refine norm_ (a' := ?_) ?_ ?_
            rotate_left
            ·show Act.put _ (some 126) _ = _
             simp only [Act.put, List.setIfInBounds_toArray, List.set_cons_zero, List.set_cons_succ, i64_w]
             rfl
            refine pure_ (i := 19) (N := some 127) (v := ?_) (a' := ?_) #[Y,Y,Y,Y,Y,Y,Y,Y,Y,Y,Y,Y,Y,Y,Y,Y,Y,Y,Y,Y,Z,Z] rfl rfl (any_of HT_.out (by kernel_rfl)) (fun _ _ _ h => h) (Or.inl ⟨by rfl, ?_⟩) ?_ ?_
            rotate_left
            ·intro w'
             go_simp; with_reducible rfl
            rotate_left
            ·simp only [Act.put, List.setIfInBounds_toArray, List.set_cons_zero, List.set_cons_succ, i64_w]
             rfl
            refine pure_ (i := 20) (N := some 128) (v := ?_) (a' := ?_) #[Y,Y,Y,Y,Y,Y,Y,Y,Y,Y,Y,Y,Y,Y,Y,Y,Y,Y,Y,Y,Y,Z] rfl rfl (any_of HT_.out (by kernel_rfl)) (fun _ _ _ h => h) (Or.inl ⟨by rfl, ?_⟩) ?_ ?_
            rotate_left
            ·intro w'
             go_simp; with_reducible rfl
            rotate_left
            ·simp only [Act.put, List.setIfInBounds_toArray, List.set_cons_zero, List.set_cons_succ, i64_w]
             rfl
            refine last_ (i := 21) (N := none) #[Y,Y,Y,Y,Y,Y,Y,Y,Y,Y,Y,Y,Y,Y,Y,Y,Y,Y,Y,Y,Y,Y] rfl rfl (one_of HT_.out (by kernel_rfl)) (by decide) (fun K hK => ?_)
            have hs114 : w111.cell? ⟨gb781, 4, none⟩ = some (.slice Ao97 x782004_3.length co97) := (blk_cell BK781.out 4).trans rfl
            have hfs114 := blk_frozen BK781.out 4
            have hns114_0 := NB767_781.out
            have hns114_1 := NB768_781.out
            have hns114_2 := NB769_781.out
            have hms114_0 := NB781_767.out
            have hms114_1 := NB781_768.out
            have hms114_2 := NB781_769.out
            refine skip_ (w1 := ?_) (by rfl) rfl ?_ ?_
            rotate_left
            ·go_simp
             rfl
            refine hK.out _ _ ?_
            clear hK K
            refine done_ (done_of HT_.out (by kernel_rfl)) ?_
            try go_wp2
            go_roundg k3
            case measure => have := HJ2.out; have := HK2.out; have := HK3.out; omega
            case rel => exact ⟨(wrap64 (x104_3 + 1)), (y823), (.slice Ao113 y823.length co113), rfl, H', ⟨by have := HJ2.out; have := HK2.out; have := HK3.out; omega⟩, ⟨by exact Kd.V_mono (Kd.V_far (p := ⟨gb781, 4, none⟩) (Kd.V_mono HO_102.out (fun k_ hk => (⟨hk, hk.1.2.2.2.2.2.2.2⟩ : _ ∧ k_ ≠ gb781))) (fun _ hk => hk.2) (.slice Ao113 y823.length co113)) (fun _ hk => ⟨hk.1.1.1, ⟨hk.1.1.2.1, ⟨hk.1.2, ⟨hk.1.1.2.2.2.2.1, ⟨hk.1.1.2.2.2.2.2.1, ⟨hk.1.1.2.2.2.2.2.2.1, hk.1.1.2.2.2.2.2.2.2⟩⟩⟩⟩⟩⟩)⟩, ⟨by exact Kd.V_mono (Kd.V_far (p := ⟨gb781, 4, none⟩) (Kd.V_mono O8.out (fun k_ hk => (⟨hk, hk.1.2.2.2.2.2.2.2⟩ : _ ∧ k_ ≠ gb781))) (fun _ hk => hk.2) (.slice Ao113 y823.length co113)) (fun _ hk => ⟨hk.1.1.1, ⟨hk.1.1.2.1, ⟨hk.1.2, ⟨hk.1.1.2.2.2.2.1, ⟨hk.1.1.2.2.2.2.2.1, ⟨hk.1.1.2.2.2.2.2.2.1, hk.1.1.2.2.2.2.2.2.2⟩⟩⟩⟩⟩⟩)⟩, ⟨by exact Kd.V_mono (Kd.V_far (p := ⟨gb781, 4, none⟩) (Kd.V_mono O9.out (fun k_ hk => (⟨hk, hk.1.2.2.2.2.2.2.2⟩ : _ ∧ k_ ≠ gb781))) (fun _ hk => hk.2) (.slice Ao113 y823.length co113)) (fun _ hk => ⟨hk.1.1.1, ⟨hk.1.1.2.1, ⟨hk.1.2, ⟨hk.1.1.2.2.2.2.1, ⟨hk.1.1.2.2.2.2.2.1, ⟨hk.1.1.2.2.2.2.2.2.1, hk.1.1.2.2.2.2.2.2.2⟩⟩⟩⟩⟩⟩)⟩, ⟨by exact Kd.R_mono (Kd.R_far (p := ⟨gb781, 4, none⟩) (Kd.R_types Oy.out BK781.out (by decide)) (fun _ hk => hk.2) (.slice Ao113 y823.length co113)) (fun _ hk => hk.1.1.1)⟩, ⟨by exact Kd.S_mono (Kd.S_far (p := ⟨gb781, 4, none⟩) (Kd.S_mono HO825.out (fun k_ hk => (⟨hk, hk.2.2.2.2.2.2⟩ : _ ∧ k_ ≠ gb781))) (fun _ hk => hk.2) (.slice Ao113 y823.length co113)) (fun _ hk => ⟨hk.1.1, ⟨hk.1.2.1, ⟨hk.1.2.2.2.1, ⟨hk.1.2.2.2.2.1, ⟨hk.1.2.2.2.2.2.1, hk.1.2.2.2.2.2.2⟩⟩⟩⟩⟩)⟩, ⟨by (with_reducible repeat (first | refine blk_drewN ?_ _ | refine blk_drew ?_ | refine blk_alloc ?_ _)); refine blk_far ?_ NB767_781.out _; (with_reducible repeat (first | refine blk_drewN ?_ _ | refine blk_drew ?_ | refine blk_alloc ?_ _)); exact BK767.out⟩, ⟨by (with_reducible repeat (first | refine blk_drewN ?_ _ | refine blk_drew ?_ | refine blk_alloc ?_ _)); refine blk_far ?_ NB768_781.out _; (with_reducible repeat (first | refine blk_drewN ?_ _ | refine blk_drew ?_ | refine blk_alloc ?_ _)); exact BK768.out⟩, ⟨by (with_reducible repeat (first | refine blk_drewN ?_ _ | refine blk_drew ?_ | refine blk_alloc ?_ _)); refine blk_far ?_ NB769_781.out _; (with_reducible repeat (first | refine blk_drewN ?_ _ | refine blk_drew ?_ | refine blk_alloc ?_ _)); exact BK769.out⟩, ⟨by (with_reducible repeat (first | refine blk_drewN ?_ _ | refine blk_drew ?_ | refine blk_alloc ?_ _)); refine blk_put (cs := #[.int .i64 a0_0, .slice Ao43 y778.length co43, .int .i64 a0_2, .int .i64 (wrap64 ((wrap64 ((wrap64 ((wrap64 ((y772.length : Int) + a0_3)) - 1)) + a1_3)) - 1)), .slice Ao97 x782004_3.length co97]) ?_ 4 _ rfl; (with_reducible repeat (first | refine blk_drewN ?_ _ | refine blk_drew ?_ | refine blk_alloc ?_ _)); exact BK781.out⟩, ⟨by repeat (first | exact HB.out | refine below_set ?_ GE769.out | refine below_set ?_ GE781.out)⟩⟩
           ·rw [if_neg c87] at H
            have c87b0 : decide (x104_3 < (l1_4.length : Int)) = false := decide_eq_false c87
            clear c87
            replace H := Option.bind_eq_some_iff.mp H
            obtain ⟨⟨t826, t827, t830, t831, t832, t835⟩, A1150, H⟩ := H
            replace H : (some (t826, t827, t830, t831, t832, t835)) = some (r1, r2, r3, r4, r5, r6) := H
            have A115 := Aside0.mk A1150
            clear A1150
            simp only [Option.some.injEq, Prod.mk.injEq] at H
            obtain ⟨rfl, rfl, rfl, rfl, rfl, rfl⟩ := H
            have hnb116 := NB781_767.out
            have hnc116 := NB767_781.out
            have hnb117 := NB781_768.out
            have hnc117 := NB768_781.out
            have hnb118 := NB781_769.out
            have hnc118 := NB769_781.out
            obtain ⟨hcz119_0, hcz119_1, hcz119_2, hcz119_3, hcz119_4, hfz119_0, hfz119_1, hfz119_2, hfz119_3, hfz119_4⟩ := box5 BK781.out
            obtain ⟨Ao120, co120, eo120⟩ := Kd.S_slice Oz.out
            subst eo120
            go_wp2_with (first | ((with_reducible refine gate_callee (f := 109) rfl ?_); refine goesL_ (some 131) rfl rfl Try.func109 (by kernel_rfl) rfl #[.agg #[.int .i64 a0_0, .slice Ao43 y778.length co43, .int .i64 a0_2, .int .i64 (wrap64 ((wrap64 ((wrap64 ((wrap64 ((y772.length : Int) + a0_3)) - 1)) + a1_3)) - 1)), .slice Ao120 x782004_3.length co120]] rfl (by (try simp only [List.map_toArray, List.map_cons, List.map_nil]); first | done | rfl | (simp only [List.length_drop, List.length_take]; rfl)) ?_; (with_reducible refine (impl_schemeOrLimit.calls k3 a0_0 (fun k_ => some k_ = (.slice Ao43 y778.length co43 : Value).ownBlock) (.slice Ao43 y778.length co43) y778 a0_2 (wrap64 ((wrap64 ((wrap64 ((wrap64 ((y772.length : Int) + a0_3)) - 1)) + a1_3)) - 1)) (fun k_ => (((P0_4_ k_ ∨ P1_4_ k_) ∨ w.heap.size ≤ k_) ∧ (some k_ ≠ (.slice Ao43 y778.length co43 : Value).ownBlock ∧ (k_ ≠ gb767 ∧ (k_ ≠ gb768 ∧ (k_ ≠ gb769 ∧ k_ ≠ gb781)))))) _ _ x782004_3 t826 t827 t830 t831 t832 t835 w _ ?side1 ?side2 ?side3 A115.out).mono ?_); (case side1 => repeat (first | exact HB.out | refine below_set ?_ GE769.out | refine below_set ?_ GE781.out)); (case side2 => exact Kd.R_tight rfl Oy.out); (case side3 => exact Kd.V_mono (Kd.S_V (Oz.out)) (fun k_ hk_ => ⟨hk_, hk_.2.1⟩)); rintro e w121 ⟨v828, v833, rfl, ho0, ho1, hb, hkp, hid_⟩; have HID_ := Aside0.mk hid_; clear hid_; refine ⟨_, rfl, ?_⟩; have n0_ := Aside0.mk (Kd.V_mono (ok' := fun k_ => ((P0_4_ k_ ∨ P1_4_ k_) ∨ w.heap.size ≤ k_) ∧ some k_ ≠ (.slice Ao120 x782004_3.length co120 : Value).ownBlock ∧ k_ ≠ gb767 ∧ k_ ≠ gb768 ∧ k_ ≠ gb769 ∧ k_ ≠ gb781 ∧ some k_ ≠ (v828 : Value).ownBlock) (Kd.V_keptB (HO_102.out) hkp (fun k_ hk_ hs_ => (hk_.2.1) hs_)) (fun k_ hk_ => ⟨hk_.1.1, hk_.1.2.2.1, hk_.1.2.2.2.1, hk_.1.2.2.2.2.1, hk_.1.2.2.2.2.2.1, hk_.1.2.2.2.2.2.2, fun e_ => Or.elim (ho0.1 k_ e_.symm) (fun hs_ => hk_.2.1 hs_) (fun hn_ => Nat.not_le.2 hk_.2.2 hn_)⟩)); have n1_ := Aside0.mk (Kd.V_mono (ok' := fun k_ => ((P0_4_ k_ ∨ P1_4_ k_) ∨ w.heap.size ≤ k_) ∧ some k_ ≠ (.slice Ao120 x782004_3.length co120 : Value).ownBlock ∧ k_ ≠ gb767 ∧ k_ ≠ gb768 ∧ k_ ≠ gb769 ∧ k_ ≠ gb781 ∧ some k_ ≠ (v828 : Value).ownBlock) (Kd.V_keptB (O8.out) hkp (fun k_ hk_ hs_ => (hk_.2.1) hs_)) (fun k_ hk_ => ⟨hk_.1.1, hk_.1.2.2.1, hk_.1.2.2.2.1, hk_.1.2.2.2.2.1, hk_.1.2.2.2.2.2.1, hk_.1.2.2.2.2.2.2, fun e_ => Or.elim (ho0.1 k_ e_.symm) (fun hs_ => hk_.2.1 hs_) (fun hn_ => Nat.not_le.2 hk_.2.2 hn_)⟩)); have n2_ := Aside0.mk (Kd.V_mono (ok' := fun k_ => ((P0_4_ k_ ∨ P1_4_ k_) ∨ w.heap.size ≤ k_) ∧ some k_ ≠ (.slice Ao120 x782004_3.length co120 : Value).ownBlock ∧ k_ ≠ gb767 ∧ k_ ≠ gb768 ∧ k_ ≠ gb769 ∧ k_ ≠ gb781 ∧ some k_ ≠ (v828 : Value).ownBlock) (Kd.V_keptB (O9.out) hkp (fun k_ hk_ hs_ => (hk_.2.1) hs_)) (fun k_ hk_ => ⟨hk_.1.1, hk_.1.2.2.1, hk_.1.2.2.2.1, hk_.1.2.2.2.2.1, hk_.1.2.2.2.2.2.1, hk_.1.2.2.2.2.2.2, fun e_ => Or.elim (ho0.1 k_ e_.symm) (fun hs_ => hk_.2.1 hs_) (fun hn_ => Nat.not_le.2 hk_.2.2 hn_)⟩)); have n3_ := Aside0.mk (Kd.S_mono (ok' := fun k_ => ((P0_4_ k_ ∨ P1_4_ k_) ∨ w.heap.size ≤ k_) ∧ k_ ≠ gb767 ∧ k_ ≠ gb768 ∧ k_ ≠ gb769 ∧ k_ ≠ gb781 ∧ some k_ ≠ (v828 : Value).ownBlock) (Kd.S_keptB (Oz.out) hkp (fun k_ hk_ hs_ => (hk_.2.1) hs_)) (fun k_ hk_ => ⟨hk_.1.1, hk_.1.2.2.1, hk_.1.2.2.2.1, hk_.1.2.2.2.2.1, hk_.1.2.2.2.2.2, fun e_ => Or.elim (ho0.1 k_ e_.symm) (fun hs_ => hk_.2.1 hs_) (fun hn_ => Nat.not_le.2 hk_.2.2 hn_)⟩)); have n4_ := Aside0.mk (blk_kept BK767.out hkp (fun hs_ => (fun e_ => (Kd.R_ne Oy.out BK767.out (by decide)) e_) hs_)); have n5_ := Aside0.mk (blk_kept BK768.out hkp (fun hs_ => (fun e_ => (Kd.R_ne Oy.out BK768.out (by decide)) e_) hs_)); have n6_ := Aside0.mk (blk_kept BK769.out hkp (fun hs_ => (fun e_ => (Kd.R_ne Oy.out BK769.out (by decide)) e_) hs_)); have n7_ := Aside0.mk (blk_kept BK781.out hkp (fun hs_ => (fun e_ => (Kd.R_ne Oy.out BK781.out (by decide)) e_) hs_)); have n8_ := Aside0.mk (Kd.R_mono (ok' := fun k_ => (w.heap.size ≤ k_)) ho0 (fun k_ hk_ => Or.elim hk_ (fun hs_ => (Oy.out.1 k_ (hs_).symm)) (fun hn_ => (Nat.le_trans (below_size HB.out) hn_)))); have n9_ := Aside0.mk ho1; have n10_ := Aside0.mk (hb); clear HO_102; clear O8; clear O9; clear Oz; clear BK767; clear BK768; clear BK769; clear BK781; clear HB; clear Oy; have HO_102 := n0_; have O8 := n1_; have O9 := n2_; have Oz := n3_; have BK767 := n4_; have BK768 := n5_; have BK769 := n6_; have BK781 := n7_; have HO829 := n8_; have HO834 := n9_; have HB := n10_; clear n0_ n1_ n2_ n3_ n4_ n5_ n6_ n7_ n8_ n9_ n10_; (try clear hb); (try clear hkp); (try clear ho0); (try clear ho1); have hnb122 := NB769_767.out; have hnc122 := NB767_769.out; have hnb123 := NB769_768.out; have hnc123 := NB768_769.out; obtain ⟨hcz124_0, hcz124_1, hcz124_2, hcz124_3, hcz124_4, hfz124_0, hfz124_1, hfz124_2, hfz124_3, hfz124_4⟩ := box5 BK769.out; obtain ⟨Ao125, co125, eo125⟩ := Kd.R_slice HO829.out; subst eo125; obtain ⟨Ao126, co126, eo126⟩ := Kd.V_slice HO834.out; subst eo126))
            refine bodyPost_ret (results_ct rfl _ _ gb769 53 #[.int .i64 t826, .slice Ao125 t827.length co125, .int .i64 t830, .int .i64 t831, .slice Ao126 t832.length co126] (0, 0) _ rfl (by refine blk_put (cs := #[.int .i64 t826, .slice Ao125 t827.length co125, .int .i64 t830, .int .i64 t831, .slice none 0 0]) ?_ 4 _ rfl; refine blk_put (cs := #[.int .i64 t826, .slice Ao125 t827.length co125, .int .i64 t830, .int .i64 0, .slice none 0 0]) ?_ 3 _ rfl; refine blk_put (cs := #[.int .i64 t826, .slice Ao125 t827.length co125, .int .i64 0, .int .i64 0, .slice none 0 0]) ?_ 2 _ rfl; refine blk_put (cs := #[.int .i64 t826, .slice none 0 0, .int .i64 0, .int .i64 0, .slice none 0 0]) ?_ 1 _ rfl; refine blk_put (cs := #[.int .i64 0, .slice none 0 0, .int .i64 0, .int .i64 0, .slice none 0 0]) ?_ 0 _ rfl; exact BK769.out) Try.underlying53 rfl (by kernel_rfl)) rfl ?_
            exact ⟨_, _, rfl, by (with_reducible repeat (first | apply Kd.R_alloc | apply Kd.R_drewN | apply Kd.R_drew)); exact Kd.R_mono (Kd.R_far (p := ⟨gb769, 4, none⟩) (Kd.R_far (p := ⟨gb769, 3, none⟩) (Kd.R_far (p := ⟨gb769, 2, none⟩) (Kd.R_far (p := ⟨gb769, 1, none⟩) (Kd.R_far (p := ⟨gb769, 0, none⟩) (Kd.R_types HO829.out BK769.out (by decide)) (fun _ hk => hk.2) (.int .i64 t826)) (fun _ hk => hk.2) (.slice Ao125 t827.length co125)) (fun _ hk => hk.2) (.int .i64 t830)) (fun _ hk => hk.2) (.int .i64 t831)) (fun _ hk => hk.2) (.slice Ao126 t832.length co126)) (fun _ hk => hk.1), (by rcases HID_.out with ⟨_, _, e1_, e2_⟩ | ⟨_, _, e1_, e2_⟩ <;> rw [e1_, e2_] <;> first | exact Kd.S_nil _ _ _ _ _ | exact (Kd.S_mono (Kd.S_far (p := ⟨gb769, 4, none⟩) (Kd.S_far (p := ⟨gb769, 3, none⟩) (Kd.S_far (p := ⟨gb769, 2, none⟩) (Kd.S_far (p := ⟨gb769, 1, none⟩) (Kd.S_far (p := ⟨gb769, 0, none⟩) (Kd.S_mono Oz.out (fun k_ hk => (⟨hk, hk.2.2.2.1⟩ : _ ∧ k_ ≠ gb769))) (fun _ hk => hk.2) (.int .i64 t826)) (fun _ hk => hk.2) (.slice Ao125 t827.length co125)) (fun _ hk => hk.2) (.int .i64 t830)) (fun _ hk => hk.2) (.int .i64 t831)) (fun _ hk => hk.2) _) (fun _ hk => hk.1.2.2.2.2.2))), by repeat (first | exact HB.out | refine below_set ?_ GE769.out | refine below_set ?_ GE781.out)⟩
     ·rw [if_neg c26] at H
      have c26b0 : (a0_2 == a1_2) = false := beq_eq_false_iff_ne.mpr c26
      have c26b1 : (a0_2 != a1_2) = true := bne_iff_ne.mpr c26
      simp only [Option.some.injEq, Prod.mk.injEq] at H
      obtain ⟨rfl, rfl, rfl, rfl, rfl, rfl⟩ := H
      have hnb127 := NB767_768.out
      have hnc127 := NB768_767.out
      have hnb128 := NB767_769.out
      have hnc128 := NB769_767.out
      obtain ⟨hcz129_0, hcz129_1, hcz129_2, hcz129_3, hcz129_4, hfz129_0, hfz129_1, hfz129_2, hfz129_3, hfz129_4⟩ := box5 BK767.out
      have hnb130 := NB768_769.out
      have hnc130 := NB769_768.out
      obtain ⟨hcz131_0, hcz131_1, hcz131_2, hcz131_3, hcz131_4, hfz131_0, hfz131_1, hfz131_2, hfz131_3, hfz131_4⟩ := box5 BK768.out
      obtain ⟨hcz132_0, hcz132_1, hcz132_2, hcz132_3, hcz132_4, hfz132_0, hfz132_1, hfz132_2, hfz132_3, hfz132_4⟩ := box5 BK769.out
      go_wp2
      refine bodyPost_ret (results_ct rfl _ _ gb769 53 #[.int .i64 0, .slice none 0 0, .int .i64 0, .int .i64 0, .slice none 0 0] (0, 0) _ rfl (by refine blk_put (cs := #[.int .i64 0, .slice none 0 0, .int .i64 0, .int .i64 0, .slice none 0 0]) ?_ 4 _ rfl; refine blk_put (cs := #[.int .i64 0, .slice none 0 0, .int .i64 0, .int .i64 0, .slice none 0 0]) ?_ 3 _ rfl; refine blk_put (cs := #[.int .i64 0, .slice none 0 0, .int .i64 0, .int .i64 0, .slice none 0 0]) ?_ 2 _ rfl; refine blk_put (cs := #[.int .i64 0, .slice none 0 0, .int .i64 0, .int .i64 0, .slice none 0 0]) ?_ 1 _ rfl; refine blk_put (cs := #[.int .i64 0, .slice none 0 0, .int .i64 0, .int .i64 0, .slice none 0 0]) ?_ 0 _ rfl; exact BK769.out) Try.underlying53 rfl (by kernel_rfl)) rfl ?_
      exact ⟨_, _, rfl, Kd.R_nil _ _ _ _ _, Kd.S_nil _ _ _ _ _, by repeat (first | exact HB.out | refine below_set ?_ GE769.out)⟩
    ·rw [if_neg c25] at H
     have c25b0 : (a0_0 == a1_0) = false := beq_eq_false_iff_ne.mpr c25
     have c25b1 : (a0_0 != a1_0) = true := bne_iff_ne.mpr c25
     simp only [Option.some.injEq, Prod.mk.injEq] at H
     obtain ⟨rfl, rfl, rfl, rfl, rfl, rfl⟩ := H
     have hnb133 := NB767_768.out
     have hnc133 := NB768_767.out
     have hnb134 := NB767_769.out
     have hnc134 := NB769_767.out
     obtain ⟨hcz135_0, hcz135_1, hcz135_2, hcz135_3, hcz135_4, hfz135_0, hfz135_1, hfz135_2, hfz135_3, hfz135_4⟩ := box5 BK767.out
     have hnb136 := NB768_769.out
     have hnc136 := NB769_768.out
     obtain ⟨hcz137_0, hcz137_1, hcz137_2, hcz137_3, hcz137_4, hfz137_0, hfz137_1, hfz137_2, hfz137_3, hfz137_4⟩ := box5 BK768.out
     obtain ⟨hcz138_0, hcz138_1, hcz138_2, hcz138_3, hcz138_4, hfz138_0, hfz138_1, hfz138_2, hfz138_3, hfz138_4⟩ := box5 BK769.out
     go_wp2
     refine bodyPost_ret (results_ct rfl _ _ gb769 53 #[.int .i64 0, .slice none 0 0, .int .i64 0, .int .i64 0, .slice none 0 0] (0, 0) _ rfl (by refine blk_put (cs := #[.int .i64 0, .slice none 0 0, .int .i64 0, .int .i64 0, .slice none 0 0]) ?_ 4 _ rfl; refine blk_put (cs := #[.int .i64 0, .slice none 0 0, .int .i64 0, .int .i64 0, .slice none 0 0]) ?_ 3 _ rfl; refine blk_put (cs := #[.int .i64 0, .slice none 0 0, .int .i64 0, .int .i64 0, .slice none 0 0]) ?_ 2 _ rfl; refine blk_put (cs := #[.int .i64 0, .slice none 0 0, .int .i64 0, .int .i64 0, .slice none 0 0]) ?_ 1 _ rfl; refine blk_put (cs := #[.int .i64 0, .slice none 0 0, .int .i64 0, .int .i64 0, .slice none 0 0]) ?_ 0 _ rfl; exact BK769.out) Try.underlying53 rfl (by kernel_rfl)) rfl ?_
     exact ⟨_, _, rfl, Kd.R_nil _ _ _ _ _, Kd.S_nil _ _ _ _ _, by repeat (first | exact HB.out | refine below_set ?_ GE769.out)⟩
theorem eitherV {W : World} {b : Nat} {A : Option Addr} {c : Nat} {l : List (List Int)} (hc : l.length ≤ c) (h : Kd.C (Kd.slice 2 (Kd.int .i64)) W A l.length l) : Kd.V (Kd.slice 2 (Kd.int .i64)) 35 W b (fun _ => True) (.slice A l.length c) l := ⟨A, c, rfl, hc, Kd.F_mono (Kd.C_F (Kd.heap_slice _ (Kd.heap_int _)) h) (fun _ _ => trivial)⟩
def impl_EitherScheme.f (k : Nat) (a0_0 : Int) (l0_1 : List Int) (a0_2 : Int) (a0_3 : Int) (l0_4 : List (List Int)) (a1_0 : Int) (l1_1 : List Int) (a1_2 : Int) (a1_3 : Int) (l1_4 : List (List Int)) : Option (Int × List Int × Int × Int × (List (List Int)) × Int) := impl_joined.f k a0_0 l0_1 a0_2 a0_3 l0_4 a1_0 l1_1 a1_2 a1_3 l1_4
set_option maxHeartbeats 8000000 in
set_option maxRecDepth 100000 in
theorem impl_EitherScheme.calls (k : Nat) (a0_0 : Int) (A0_1 : Option Addr) (c0_1 : Nat) (l0_1 : List Int) (a0_2 : Int) (a0_3 : Int) (A0_4 : Option Addr) (c0_4 : Nat) (l0_4 : List (List Int)) (a1_0 : Int) (A1_1 : Option Addr) (c1_1 : Nat) (l1_1 : List Int) (a1_2 : Int) (a1_3 : Int) (A1_4 : Option Addr) (c1_4 : Nat) (l1_4 : List (List Int)) (r1 : Int) (r2 : List Int) (r3 : Int) (r4 : Int) (r5 : List (List Int)) (r6 : Int) (w : World) (hr0_1 : Kd.C (Kd.int .i64) w A0_1 l0_1.length l0_1) (hc0_1 : l0_1.length ≤ c0_1) (hr0_4 : Kd.C (Kd.slice 2 (Kd.int .i64)) w A0_4 l0_4.length l0_4) (hc0_4 : l0_4.length ≤ c0_4) (hr1_1 : Kd.C (Kd.int .i64) w A1_1 l1_1.length l1_1) (hc1_1 : l1_1.length ≤ c1_1) (hr1_4 : Kd.C (Kd.slice 2 (Kd.int .i64)) w A1_4 l1_4.length l1_4) (hc1_4 : l1_4.length ≤ c1_4) (h : impl_EitherScheme.f k a0_0 l0_1 a0_2 a0_3 l0_4 a1_0 l1_1 a1_2 a1_3 l1_4 = some (r1, r2, r3, r4, r5, r6)) :
  Calls Try.prog 42 #[.agg #[.int .i64 a0_0, .slice A0_1 l0_1.length c0_1, .int .i64 a0_2, .int .i64 a0_3, .slice A0_4 l0_4.length c0_4], .agg #[.int .i64 a1_0, .slice A1_1 l1_1.length c1_1, .int .i64 a1_2, .int .i64 a1_3, .slice A1_4 l1_4.length c1_4]] w fun e w' => ∃ v1_ v4_ : Value, e = .returned (.tuple #[.agg #[.int .i64 r1, v1_, .int .i64 r3, .int .i64 r4, v4_], .int .i64 r6]) ∧ Kd.R (Kd.int .i64) 2 w' w.heap.size (fun _ => True) v1_ r2 ∧ Kd.S (Kd.slice 2 (Kd.int .i64)) 35 w' w.heap.size (fun k_ => some k_ ≠ (v1_ : Value).ownBlock) v4_ r5 ∧ Below w.heap.size w w' := by
 have hus := Try.underlying53
 have HR0_1 := Aside0.mk hr0_1
 have HC0_1 := Aside0.mk hc0_1
 clear hr0_1 hc0_1
 have HR0_4 := Aside0.mk hr0_4
 have HC0_4 := Aside0.mk hc0_4
 clear hr0_4 hc0_4
 have HR1_1 := Aside0.mk hr1_1
 have HC1_1 := Aside0.mk hc1_1
 clear hr1_1 hc1_1
 have HR1_4 := Aside0.mk hr1_4
 have HC1_4 := Aside0.mk hc1_4
 clear hr1_4 hc1_4
 unfold impl_EitherScheme.f at h
 have A1_ := Aside0.mk h
 clear h
 obtain ⟨gz, hgz⟩ : ∃ g, g = w.heap.size + 1 + 1 := ⟨_, rfl⟩
 go_enter Try.func42, Try.ntmps42
 go_wp2_with (first | (go_at_call 86; (with_reducible refine (impl_joined.calls k a0_0 A0_1 c0_1 l0_1 a0_2 a0_3 (fun _ => True) A0_4 c0_4 l0_4 a1_0 A1_1 c1_1 l1_1 a1_2 a1_3 (fun _ => True) A1_4 c1_4 l1_4 r1 r2 r3 r4 r5 r6 _ ?s1 ?s2 ?s3 ?s4 ?s5 ?s6 A1_.out).mono ?_); (case s1 => exact (by repeat (first | exact HR0_1.out | (with_reducible refine Kd.C_alloc ?_ _) | (with_reducible refine Kd.C_drewN ?_ _) | (with_reducible refine Kd.C_drew ?_)))); (case s2 => exact HC0_1.out); (case s3 => exact eitherV HC0_4.out (by repeat (first | exact HR0_4.out | (with_reducible refine Kd.C_alloc ?_ _) | (with_reducible refine Kd.C_drewN ?_ _) | (with_reducible refine Kd.C_drew ?_)))); (case s4 => exact (by repeat (first | exact HR1_1.out | (with_reducible refine Kd.C_alloc ?_ _) | (with_reducible refine Kd.C_drewN ?_ _) | (with_reducible refine Kd.C_drew ?_)))); (case s5 => exact HC1_1.out); (case s6 => exact eitherV HC1_4.out (by repeat (first | exact HR1_4.out | (with_reducible refine Kd.C_alloc ?_ _) | (with_reducible refine Kd.C_drewN ?_ _) | (with_reducible refine Kd.C_drew ?_)))); rintro e w1 ⟨v1, v4, rfl, ho1, ho4, hb⟩; have BZ := Aside0.mk (blk_below (g := gz) (o := .cells #[(.int .i64 0 : Value), (.slice none 0 0 : Value), (.int .i64 0 : Value), (.int .i64 0 : Value), (.slice none 0 0 : Value)] 53 (0, 0)) (by rw [hgz]; exact (by repeat (first | exact blk_new_at (by simp) | (with_reducible refine blk_drewN ?_ _) | (with_reducible refine blk_drew ?_) | (with_reducible refine blk_alloc ?_ _)))) hb); have HB := Aside0.mk (below_step (w := w) (by repeat (first | exact Below.refl _ _ | apply below_alloc | apply pw_below_drewN | apply below_drew1)) hb); have HO1 := Aside0.mk (Kd.R_lower (base' := w.heap.size) ho1 (below_size (by repeat (first | exact Below.refl _ _ | apply below_alloc | apply pw_below_drewN | apply below_drew1)))); have HO4 := Aside0.mk (Kd.S_lower (base' := w.heap.size) ho4 (below_size (by repeat (first | exact Below.refl _ _ | apply below_alloc | apply pw_below_drewN | apply below_drew1)))); clear hb ho1 ho4; obtain ⟨Ao1, co1, eo1⟩ := Kd.R_slice HO1.out; subst eo1; obtain ⟨Ao4, co4, eo4⟩ := Kd.S_slice HO4.out; subst eo4; have hz0 : w1.cell? ⟨gz, 0, none⟩ = some (.int .i64 0) := (blk_cell BZ.out 0).trans rfl; have hzf0 := blk_frozen BZ.out 0; have hz1 : w1.cell? ⟨gz, 1, none⟩ = some (.slice none 0 0) := (blk_cell BZ.out 1).trans rfl; have hzf1 := blk_frozen BZ.out 1; have hz2 : w1.cell? ⟨gz, 2, none⟩ = some (.int .i64 0) := (blk_cell BZ.out 2).trans rfl; have hzf2 := blk_frozen BZ.out 2; have hz3 : w1.cell? ⟨gz, 3, none⟩ = some (.int .i64 0) := (blk_cell BZ.out 3).trans rfl; have hzf3 := blk_frozen BZ.out 3; have hz4 : w1.cell? ⟨gz, 4, none⟩ = some (.slice none 0 0) := (blk_cell BZ.out 4).trans rfl; have hzf4 := blk_frozen BZ.out 4; rw [hgz] at hz0 hzf0 hz1 hzf1 hz2 hzf2 hz3 hzf3 hz4 hzf4))
 rw [← hgz]
 ((try simp only [Exit.inBlock, Exit.then]); refine bodyPost_ret (results_ct rfl _ _ gz 53 #[.int .i64 r1, .slice Ao1 r2.length co1, .int .i64 r3, .int .i64 r4, .slice Ao4 r5.length co4] (0, 0) _ rfl (blk_put (blk_put (blk_put (blk_put (blk_put BZ.out 0 _ rfl) 1 _ rfl) 2 _ rfl) 3 _ rfl) 4 _ rfl) Try.underlying53 rfl (by kernel_rfl)) rfl ?_)
 exact ⟨_, _, rfl, Kd.R_mono (Kd.R_far (p := ⟨gz, 4, none⟩) (Kd.R_far (p := ⟨gz, 3, none⟩) (Kd.R_far (p := ⟨gz, 2, none⟩) (Kd.R_far (p := ⟨gz, 1, none⟩) (Kd.R_far (p := ⟨gz, 0, none⟩) (Kd.R_types HO1.out BZ.out (by decide)) (fun _ hk => hk.2) (.int .i64 r1)) (fun _ hk => hk.2) (.slice Ao1 r2.length co1)) (fun _ hk => hk.2) (.int .i64 r3)) (fun _ hk => hk.2) (.int .i64 r4)) (fun _ hk => hk.2) (.slice Ao4 r5.length co4)) (fun _ _ => trivial), Kd.S_mono (Kd.S_far (p := ⟨gz, 4, none⟩) (Kd.S_far (p := ⟨gz, 3, none⟩) (Kd.S_far (p := ⟨gz, 2, none⟩) (Kd.S_far (p := ⟨gz, 1, none⟩) (Kd.S_far (p := ⟨gz, 0, none⟩) (Kd.S_types HO4.out BZ.out (by decide)) (fun _ hk => hk.2) (.int .i64 r1)) (fun _ hk => hk.2) (.slice Ao1 r2.length co1)) (fun _ hk => hk.2) (.int .i64 r3)) (fun _ hk => hk.2) (.int .i64 r4)) (fun _ hk => hk.2) (.slice Ao4 r5.length co4)) (fun _ hk => hk.1), (below_set (below_set (below_set (below_set (below_set HB.out (by omega)) (by omega)) (by omega)) (by omega)) (by omega))⟩
end Go.Proofs.Ytjpbemomocccaaa.P
