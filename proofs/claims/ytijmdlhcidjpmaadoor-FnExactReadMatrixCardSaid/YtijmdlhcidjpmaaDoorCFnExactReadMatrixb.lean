/- For every text the program's ReadMatrix and the reference's read alike, and the result is memory of its own. This text: part 2 of what it rests on: functions of the translation as plain Lean functions, and that the machine's calls come to their answers. -/
import Derived.Test.YtijmdlhcidjpmaaDoorCFnExactReadMatrixa
import Derived.ChangeArms
import Derived.DataShut
import Derived.Deep.Slices
import Derived.Lib.SmallJoins
import Derived.Shelf.Strconv.Itoa4
import Derived.Shelf.Strconv.ParseIntPublic10
import Derived.Shelf.Strings.Cut
import Derived.Shelf.Strings.Split
import Derived.WideShapes
namespace Go.Proofs.YtijmdlhcidjpmaaDoor.P
open Go.RowKit Go.Proofs.YtijmdlhcidjpmaaDoorW.PrintWords Go.Proofs.YtijmdlhcidjpmaaDoorW.PrintLast Go.Proofs.YtijmdlhcidjpmaaDoorW.PrintMore
attribute [local go_sem] max2_int min2_int max_two min_two max_three min_three max_four min_four
set_option linter.unusedVariables false
set_option linter.unusedSimpArgs false
def impl_words.l0 : Nat → ByteArray → List Int → Int → Int → Option (ByteArray)
 | 0, _, _, _, _ => none
 | k + 1, x5, x9, x10, x11 => if x11 < x10 then (if 0 ≤ x11 then (if x11 < (x9.length : Int) then ((impl_decimal.f (rd x9 x11)).bind fun t168 => (if 1 + t168.size ≤ 9223372036854775807 then (if x5.size + ((⟨#[32]⟩ : ByteArray) ++ t168).size ≤ 9223372036854775807 then (impl_words.l0 k (x5 ++ ((⟨#[32]⟩ : ByteArray) ++ t168)) x9 x10 (wrap64 (x11 + 1))) else (none)) else (none))) else (none)) else (none)) else (some x5)
def impl_words.f (k : Nat) (a0 : ByteArray) (l1 : List Int) : Option (ByteArray) := impl_words.l0 k a0 l1 (l1.length : Int) 0
set_option maxHeartbeats 8000000 in
set_option maxRecDepth 100000 in
theorem impl_words.calls (k : Nat) (a0 : ByteArray) (A1 : Option Addr) (c1 : Nat) (l1 : List Int) (r : ByteArray) (w : World) (hr1 : Kd.C (Kd.int .i64) w A1 l1.length l1) (hc1 : l1.length ≤ c1) (h : impl_words.f k a0 l1 = some r) :
  Calls Tryd.prog 41 #[.string a0, .slice A1 l1.length c1] w fun e w' => e = .returned (.string r) ∧ Drawn0 w w' := by
 have HR1 := Aside0.mk hr1
 have HC1 := Aside0.mk hc1
 clear hr1 hc1
 have H : (impl_words.l0 k a0 l1 (l1.length : Int) 0) = some r := h
 clear h
 have H' := Aside0.mk H
 clear H
 go_enter Tryd.func41, Tryd.ntmps41
 go_wp2
 go_loopg [5, 11] k (fun kq v5 v11 w' => ∃ (x5_1 : ByteArray) (x11_1 : Int), v5 = .string x5_1 ∧ v11 = .int .i64 x11_1 ∧ Aside0 (impl_words.l0 kq x5_1 l1 (l1.length : Int) x11_1 = some r) ∧ Aside0 (kq ≤ k) ∧ Drawn0 w w')
 case atStart => exact ⟨(a0), (0), (by first | rfl | (simp; done) | (simp [*]; done)), (by first | rfl | (simp; done) | (simp [*]; done)), H', ⟨Nat.le_refl _⟩, by repeat (first | exact Drawn0.refl _ | apply Drawn0.step)⟩
 case round =>
  clear H'
  try clear c1
  try clear p2
  obtain ⟨x5_1, x11_1, rfl, rfl, HA, HK1, ⟨m1, rfl⟩⟩ := hrel
  cases gk with
  | zero => exact absurd HA.out (by simp [impl_words.l0])
  | succ k1 =>
   have H := HA.out
   clear HA
   simp only [impl_words.l0] at H
   by_cases c3 : x11_1 < (l1.length : Int)
   ·rw [if_pos c3] at H
    have c3b0 : decide (x11_1 < (l1.length : Int)) = true := decide_eq_true c3
    clear c3
    by_cases c4 : 0 ≤ x11_1
    ·rw [if_pos c4] at H
     have c4b0 : decide (0 ≤ x11_1) = true := decide_eq_true c4
     clear c4
     by_cases c5 : x11_1 < (l1.length : Int)
     ·rw [if_pos c5] at H
      have c5b0 : decide (x11_1 < (l1.length : Int)) = true := decide_eq_true c5
      clear c5
      replace H := Option.bind_eq_some_iff.mp H
      obtain ⟨t168, A60, H⟩ := H
      replace H : (if 1 + t168.size ≤ 9223372036854775807 then (if x5_1.size + ((⟨#[32]⟩ : ByteArray) ++ t168).size ≤ 9223372036854775807 then (impl_words.l0 k1 (x5_1 ++ ((⟨#[32]⟩ : ByteArray) ++ t168)) l1 (l1.length : Int) (wrap64 (x11_1 + 1))) else (none)) else (none)) = some r := H
      have A6 := Aside0.mk A60
      clear A60
      by_cases c7 : 1 + t168.size ≤ 9223372036854775807
      ·rw [if_pos c7] at H
       have c7b0 := eq_true c7
       have c7b1 : decide (1 + t168.size ≤ 9223372036854775807) = true := decide_eq_true c7
       try have c7b2 : (9223372036854775807 < 1 + t168.size) = False := eq_false (Nat.not_lt.2 c7)
       by_cases c8 : x5_1.size + ((⟨#[32]⟩ : ByteArray) ++ t168).size ≤ 9223372036854775807
       ·rw [if_pos c8] at H
        have c8b0 := eq_true c8
        have c8b1 : decide (x5_1.size + ((⟨#[32]⟩ : ByteArray) ++ t168).size ≤ 9223372036854775807) = true := decide_eq_true c8
        try have c8b2 : (9223372036854775807 < x5_1.size + ((⟨#[32]⟩ : ByteArray) ++ t168).size) = False := eq_false (Nat.not_lt.2 c8)
        try have c8b2x : (9223372036854775807 < x5_1.size + (1 + t168.size)) = False := (by have h_ := c8b2; simp only [ByteArray.size_append] at h_; exact h_)
        have H' := Aside0.mk H
        clear H
        have p167 : 0 ≤ (x11_1 : Int) := of_decide_eq_true (by first | (with_reducible assumption) | assumption)
        have q167 : x11_1 < (l1.length : Int) := of_decide_eq_true (by first | (with_reducible assumption) | assumption)
        obtain ⟨ad167, e167, hx167_0⟩ := Kd.at_int HR1.out x11_1 p167 q167
        cases e167
        replace p167 := eq_true p167
        replace q167 := eq_true q167
        go_wp2_with (first | ((with_reducible refine gate_callee (f := 46) rfl ?_); refine goesL_ (some 17) rfl rfl Tryd.func46 (by kernel_rfl) rfl #[.int .i64 (rd l1 x11_1)] rfl (by (try simp only [List.map_toArray, List.map_cons, List.map_nil]); first | done | rfl | (simp only [List.length_drop, List.length_take]; rfl)) ?_; (with_reducible refine (impl_decimal.calls (rd l1 x11_1) t168 _ A6.out).mono ?_); rintro e w' ⟨rfl, ⟨nd, rfl⟩⟩; refine ⟨_, rfl, ?_⟩))
        go_roundg k1
        case measure => have := HK1.out; omega
        case rel => exact ⟨(x5_1 ++ ((⟨#[32]⟩ : ByteArray) ++ t168)), (wrap64 (x11_1 + 1)), (by first | rfl | (simp; done) | (simp [*]; done)), (by first | rfl | (simp; done) | (simp [*]; done)), H', ⟨by have := HK1.out; omega⟩, by repeat (first | exact Drawn0.refl _ | apply Drawn0.step)⟩
       ·rw [if_neg c8] at H
        exact absurd H (by simp)
      ·rw [if_neg c7] at H
       exact absurd H (by simp)
     ·rw [if_neg c5] at H
      exact absurd H (by simp)
    ·rw [if_neg c4] at H
     exact absurd H (by simp)
   ·rw [if_neg c3] at H
    have c3b0 : decide (x11_1 < (l1.length : Int)) = false := decide_eq_false c3
    clear c3
    obtain rfl := Option.some.inj H
    go_wp2
    go_ret
    exact ⟨by first | rfl | (simp; done) | (simp [*]; done), by repeat (first | exact Drawn0.refl _ | apply Drawn0.step)⟩
def impl_MatrixText.l0 : Nat → ByteArray → List (List Int) → Int → Int → Option (ByteArray)
 | 0, _, _, _, _ => none
 | k + 1, x3, x17, x18, x19 => if x19 < x18 then (if 0 ≤ x19 then (if x19 < (x17.length : Int) then ((impl_words.f k (⟨#[114, 111, 119]⟩ : ByteArray) (rd_L1 x17 x19)).bind fun t176 => (if t176.size + 1 ≤ 9223372036854775807 then (if x3.size + (t176 ++ (⟨#[10]⟩ : ByteArray)).size ≤ 9223372036854775807 then (impl_MatrixText.l0 k (x3 ++ (t176 ++ (⟨#[10]⟩ : ByteArray))) x17 x18 (wrap64 (x19 + 1))) else (none)) else (none))) else (none)) else (none)) else (some x3)
def impl_MatrixText.f (k : Nat) (a0_0 : Int) (a0_1 : Int) (l0_2 : List (List Int)) : Option (ByteArray) := (impl_ValidMatrix.f k a0_0 a0_1 l0_2).bind fun t170 => (if t170 = true then ((impl_words.f k (⟨#[109, 97, 116, 114, 105, 120]⟩ : ByteArray) (([a0_0, a0_1] : List Int))).bind fun t174 => (if t174.size + 1 ≤ 9223372036854775807 then (impl_MatrixText.l0 k (t174 ++ (⟨#[10]⟩ : ByteArray)) l0_2 (l0_2.length : Int) 0) else (none))) else (some (⟨#[]⟩ : ByteArray)))
set_option maxHeartbeats 8000000 in
set_option maxRecDepth 100000 in
theorem impl_MatrixText.calls (k : Nat) (a0_0 : Int) (a0_1 : Int) (A0_2 : Option Addr) (c0_2 : Nat) (l0_2 : List (List Int)) (r : ByteArray) (w : World) (hr0_2 : Kd.C (Kd.slice 2 (Kd.int .i64)) w A0_2 l0_2.length l0_2) (hc0_2 : l0_2.length ≤ c0_2) (h : impl_MatrixText.f k a0_0 a0_1 l0_2 = some r) :
  Calls Tryd.prog 12 #[.agg #[.int .i64 a0_0, .int .i64 a0_1, .slice A0_2 l0_2.length c0_2]] w fun e w' => e = .returned (.string r) ∧ Below w.heap.size w w' := by
 have hu27 := Tryd.underlying27
 have HR0_2 := Aside0.mk hr0_2
 have HC0_2 := Aside0.mk hc0_2
 clear hr0_2 hc0_2
 have HB := Aside0.mk (Below.refl w.heap.size w)
 have H : ((impl_ValidMatrix.f k a0_0 a0_1 l0_2).bind fun t170 => (if t170 = true then ((impl_words.f k (⟨#[109, 97, 116, 114, 105, 120]⟩ : ByteArray) (([a0_0, a0_1] : List Int))).bind fun t174 => (if t174.size + 1 ≤ 9223372036854775807 then (impl_MatrixText.l0 k (t174 ++ (⟨#[10]⟩ : ByteArray)) l0_2 (l0_2.length : Int) 0) else (none))) else (some (⟨#[]⟩ : ByteArray)))) = some r := h
 clear h
 replace H := Option.bind_eq_some_iff.mp H
 obtain ⟨t170, A20, H⟩ := H
 replace H : (if t170 = true then ((impl_words.f k (⟨#[109, 97, 116, 114, 105, 120]⟩ : ByteArray) (([a0_0, a0_1] : List Int))).bind fun t174 => (if t174.size + 1 ≤ 9223372036854775807 then (impl_MatrixText.l0 k (t174 ++ (⟨#[10]⟩ : ByteArray)) l0_2 (l0_2.length : Int) 0) else (none))) else (some (⟨#[]⟩ : ByteArray))) = some r := H
 have A2 := Aside0.mk A20
 clear A20
 by_cases c3 : t170 = true
 ·subst c3
  have H1 : ((impl_words.f k (⟨#[109, 97, 116, 114, 105, 120]⟩ : ByteArray) (([a0_0, a0_1] : List Int))).bind fun t174 => (if t174.size + 1 ≤ 9223372036854775807 then (impl_MatrixText.l0 k (t174 ++ (⟨#[10]⟩ : ByteArray)) l0_2 (l0_2.length : Int) 0) else (none))) = some r := by rw [if_pos rfl] at H; exact H
  clear H
  have H := H1
  clear H1
  obtain ⟨y171, hy171⟩ : ∃ y_ : List Int, y_ = (([a0_0, a0_1] : List Int)) := ⟨_, rfl⟩
  replace H : ((impl_words.f k (⟨#[109, 97, 116, 114, 105, 120]⟩ : ByteArray) y171).bind fun t174 => (if t174.size + 1 ≤ 9223372036854775807 then (impl_MatrixText.l0 k (t174 ++ (⟨#[10]⟩ : ByteArray)) l0_2 (l0_2.length : Int) 0) else (none))) = some r := by first | (rw [hy171]; with_reducible exact H) | (have H2_ := (Option.bind_some _ _).symm.trans H; rw [hy171]; with_reducible exact H2_) | (have H2_ := (Option.bind_some _ _).symm.trans H; with_reducible exact H2_) | with_reducible exact H | (rw [hy171]; exact H) | exact H
  have Ny171 := Aside0.mk hy171
  clear hy171
  replace H := Option.bind_eq_some_iff.mp H
  obtain ⟨t174, A40, H⟩ := H
  replace H : (if t174.size + 1 ≤ 9223372036854775807 then (impl_MatrixText.l0 k (t174 ++ (⟨#[10]⟩ : ByteArray)) l0_2 (l0_2.length : Int) 0) else (none)) = some r := H
  have A4 := Aside0.mk A40
  clear A40
  by_cases c5 : t174.size + 1 ≤ 9223372036854775807
  ·rw [if_pos c5] at H
   have c5b0 := eq_true c5
   have c5b1 : decide (t174.size + 1 ≤ 9223372036854775807) = true := decide_eq_true c5
   try have c5b2 : (9223372036854775807 < t174.size + 1) = False := eq_false (Nat.not_lt.2 c5)
   have H' := Aside0.mk H
   clear H
   go_enter Tryd.func12, Tryd.ntmps12
   go_wp2_with (first | ((with_reducible refine gate_dst (N := 1) rfl ?_); refine box_event ?hg (N := 1) ?hd (cs := #[.int .i64 a0_0, .int .i64 a0_1, .slice A0_2 l0_2.length c0_2]) (t := 27) ?hr ?_; (case hd => rfl); (case hg => rfl); (case hr => first | (go_simp; done) | (go_simp; rfl)); intro gb169 hg w6 hbox hb; have n0_ := Aside0.mk (below_step (by repeat (first | (with_reducible first | exact HB.out | apply below_alloc | apply pw_below_drewN | apply below_drew1) | exact HB.out)) hb); have n1_ := Aside0.mk (hbox); have n2_ := Aside0.mk ((by rw [hg]; exact (below_size (by repeat (first | (with_reducible first | exact HB.out | apply below_alloc | apply pw_below_drewN | apply below_drew1) | exact HB.out))) : w.heap.size ≤ gb169)); have n3_ := Aside0.mk ((by rw [hg]; exact (below_size (by repeat (first | (with_reducible first | exact HB.out | apply below_alloc | apply pw_below_drewN | apply below_drew1) | exact HB.out))) : w.heap.size ≤ gb169)); clear HB; have HB := n0_; have BK169 := n1_; have GW169 := n2_; have GE169 := n3_; clear n0_ n1_ n2_ n3_; clear hb hbox hg; have hcz7_0 : w6.cell? ⟨gb169, 0, none⟩ = some (.int .i64 a0_0) := (blk_cell BK169.out 0).trans rfl; have hcz7_1 : w6.cell? ⟨gb169, 1, none⟩ = some (.int .i64 a0_1) := (blk_cell BK169.out 1).trans rfl; have hcz7_2 : w6.cell? ⟨gb169, 2, none⟩ = some (.slice A0_2 l0_2.length c0_2) := (blk_cell BK169.out 2).trans rfl; have hfz7_0 := blk_frozen BK169.out 0; have hfz7_1 := blk_frozen BK169.out 1; have hfz7_2 := blk_frozen BK169.out 2) | ((with_reducible refine gate_callee (f := 40) rfl ?_); refine goesL_ (some 7) rfl rfl Tryd.func40 (by kernel_rfl) rfl #[.agg #[.int .i64 a0_0, .int .i64 a0_1, .slice A0_2 l0_2.length c0_2]] rfl (by (try simp only [List.map_toArray, List.map_cons, List.map_nil]); first | done | rfl | (simp only [List.length_drop, List.length_take]; rfl)) ?_; (with_reducible refine (impl_ValidMatrix.calls k a0_0 a0_1 _ _ l0_2 true _ ?side1 ?side2 A2.out).mono ?_); (case side1 => repeat (first | exact (Kd.C_below HR0_2.out HB.out) | (with_reducible refine Kd.C_alloc ?_ _) | (with_reducible refine Kd.C_drewN ?_ _) | (with_reducible refine Kd.C_drew ?_))); (case side2 => exact HC0_2.out); rintro e w8 ⟨rfl, hb⟩; refine ⟨_, rfl, ?_⟩; have n0_ := Aside0.mk (blk_below (g := gb169) (o := .cells #[.int .i64 a0_0, .int .i64 a0_1, .slice A0_2 l0_2.length c0_2] 27 (0, 0)) (by (with_reducible repeat (first | refine blk_drewN ?_ _ | refine blk_drew ?_ | refine blk_alloc ?_ _)); exact BK169.out) hb); have n1_ := Aside0.mk (below_step (by repeat (first | (with_reducible first | exact HB.out | apply below_alloc | apply pw_below_drewN | apply below_drew1 | refine below_set ?_ GE169.out) | exact HB.out)) hb); clear BK169; clear HB; have BK169 := n0_; have HB := n1_; clear n0_ n1_; (try clear hb); (try clear hb2); (try clear hk); (try clear hi); have hcz9_0 : w8.cell? ⟨gb169, 0, none⟩ = some (.int .i64 a0_0) := (blk_cell BK169.out 0).trans rfl; have hcz9_1 : w8.cell? ⟨gb169, 1, none⟩ = some (.int .i64 a0_1) := (blk_cell BK169.out 1).trans rfl; have hcz9_2 : w8.cell? ⟨gb169, 2, none⟩ = some (.slice A0_2 l0_2.length c0_2) := (blk_cell BK169.out 2).trans rfl; have hfz9_0 := blk_frozen BK169.out 0; have hfz9_1 := blk_frozen BK169.out 1; have hfz9_2 := blk_frozen BK169.out 2) | ((with_reducible refine gate_dst (N := 13) rfl ?_); refine Kd.R_lit (Kd.int .i64) _ 2 ?hg (N := 13) ?hd (xs := ([a0_0, a0_1] : List Int)) (inner := [.int .i64 a0_0, .int .i64 a0_1]) (ok := fun _ => True) (okp := fun _ => True) ?hr ?hp (fun _ hk => hk) trivial (Below.refl _ _) (Nat.le_refl _) (by simp) ?_; (case hd => rfl); (case hg => rfl); (case hr => first | (go_simp; done) | (go_simp; rfl)); (case hp => exact (Reps.one (show Kd.M (Kd.int .i64) _ _ _ a0_0 [.int .i64 a0_0] from rfl) (Reps.one (show Kd.M (Kd.int .i64) _ _ _ a0_1 [.int .i64 a0_1] from rfl) (Reps.none _ _)))); intro v172 w10 ho11 hb hg_ hnew_; clear hg_ hnew_; (first | rw [← Ny171.out] at ho11 | (simp only [Int.reduceToNat] at ho11; rw [← Ny171.out] at ho11)); have n0_ := Aside0.mk (Kd.R_lower ho11 (below_size (by repeat (first | (with_reducible first | exact HB.out | apply below_alloc | apply pw_below_drewN | apply below_drew1 | refine below_set ?_ GE169.out) | exact HB.out)))); have n1_ := Aside0.mk (blk_below (g := gb169) (o := .cells #[.int .i64 a0_0, .int .i64 a0_1, .slice A0_2 l0_2.length c0_2] 27 (0, 0)) (by (with_reducible repeat (first | refine blk_drewN ?_ _ | refine blk_drew ?_ | refine blk_alloc ?_ _)); exact BK169.out) hb); have n2_ := Aside0.mk (below_step (by repeat (first | (with_reducible first | exact HB.out | apply below_alloc | apply pw_below_drewN | apply below_drew1 | refine below_set ?_ GE169.out) | exact HB.out)) hb); clear BK169; clear HB; have HO173 := n0_; have BK169 := n1_; have HB := n2_; clear n0_ n1_ n2_; clear hb ho11; obtain ⟨Ao12, co12, eo12⟩ := Kd.R_slice HO173.out; subst eo12) | ((with_reducible refine gate_callee (f := 41) rfl ?_); refine goesL_ (some 14) rfl rfl Tryd.func41 (by kernel_rfl) rfl #[.string (⟨#[109, 97, 116, 114, 105, 120]⟩ : ByteArray), .slice Ao12 y171.length co12] rfl (by (try simp only [List.map_toArray, List.map_cons, List.map_nil]); first | done | rfl | (simp only [List.length_drop, List.length_take]; rfl)) ?_; (with_reducible refine (impl_words.calls k (⟨#[109, 97, 116, 114, 105, 120]⟩ : ByteArray) _ _ y171 t174 _ ?side1 ?side2 A4.out).mono ?_); (case side1 => repeat (first | exact (Kd.R_reads' HO173.out).2.2 | (with_reducible refine Kd.C_alloc ?_ _) | (with_reducible refine Kd.C_drewN ?_ _) | (with_reducible refine Kd.C_drew ?_))); (case side2 => exact (Kd.R_reads' HO173.out).2.1); rintro e w' ⟨rfl, ⟨nd, rfl⟩⟩; refine ⟨_, rfl, ?_⟩; have hcz13_0 : w10.cell? ⟨gb169, 0, none⟩ = some (.int .i64 a0_0) := (blk_cell BK169.out 0).trans rfl; have hcz13_1 : w10.cell? ⟨gb169, 1, none⟩ = some (.int .i64 a0_1) := (blk_cell BK169.out 1).trans rfl; have hcz13_2 : w10.cell? ⟨gb169, 2, none⟩ = some (.slice A0_2 l0_2.length c0_2) := (blk_cell BK169.out 2).trans rfl; have hfz13_0 := blk_frozen BK169.out 0; have hfz13_1 := blk_frozen BK169.out 1; have hfz13_2 := blk_frozen BK169.out 2))
   go_loopg [3, 19] k (fun kq v3 v19 w' => ∃ (x3_1 : ByteArray) (x19_1 : Int), v3 = .string x3_1 ∧ v19 = .int .i64 x19_1 ∧ Aside0 (impl_MatrixText.l0 kq x3_1 l0_2 (l0_2.length : Int) x19_1 = some r) ∧ Aside0 (kq ≤ k) ∧ Aside0 (w'.heap[gb169]? = some (.cells #[.int .i64 a0_0, .int .i64 a0_1, (.slice A0_2 l0_2.length c0_2)] 27 (0, 0))) ∧ Aside0 (Below w.heap.size w w'))
   case atStart => exact ⟨(t174 ++ (⟨#[10]⟩ : ByteArray)), (0), (by first | rfl | (simp; done) | (simp [*]; done)), (by first | rfl | (simp; done) | (simp [*]; done)), H', ⟨Nat.le_refl _⟩, ⟨by (with_reducible repeat (first | refine blk_drewN ?_ _ | refine blk_drew ?_ | refine blk_alloc ?_ _)); exact BK169.out⟩, ⟨by repeat (first | (with_reducible first | exact HB.out | apply below_alloc | apply pw_below_drewN | apply below_drew1 | refine below_set ?_ GE169.out) | exact HB.out)⟩⟩
   case round =>
    clear H'
    try clear c1
    try clear p2
    try clear c3
    try clear c4
    try clear c5
    try clear c5b0
    try clear c5b1
    try clear c5b2
    try clear c12
    try clear hcz13_0
    try clear hcz13_1
    try clear hcz13_2
    try clear hcz7_0
    try clear hcz7_1
    try clear hcz7_2
    try clear hcz9_0
    try clear hcz9_1
    try clear hcz9_2
    try clear hfz13_0
    try clear hfz13_1
    try clear hfz13_2
    try clear hfz7_0
    try clear hfz7_1
    try clear hfz7_2
    try clear hfz9_0
    try clear hfz9_1
    try clear hfz9_2
    obtain ⟨x3_1, x19_1, rfl, rfl, HA, HK1, BK169, HB⟩ := hrel
    cases gk with
    | zero => exact absurd HA.out (by simp [impl_MatrixText.l0])
    | succ k1 =>
     have H := HA.out
     clear HA
     simp only [impl_MatrixText.l0] at H
     by_cases c14 : x19_1 < (l0_2.length : Int)
     ·rw [if_pos c14] at H
      have c14b0 : decide (x19_1 < (l0_2.length : Int)) = true := decide_eq_true c14
      clear c14
      by_cases c15 : 0 ≤ x19_1
      ·rw [if_pos c15] at H
       have c15b0 : decide (0 ≤ x19_1) = true := decide_eq_true c15
       clear c15
       by_cases c16 : x19_1 < (l0_2.length : Int)
       ·rw [if_pos c16] at H
        have c16b0 : decide (x19_1 < (l0_2.length : Int)) = true := decide_eq_true c16
        clear c16
        replace H := Option.bind_eq_some_iff.mp H
        obtain ⟨t176, A170, H⟩ := H
        replace H : (if t176.size + 1 ≤ 9223372036854775807 then (if x3_1.size + (t176 ++ (⟨#[10]⟩ : ByteArray)).size ≤ 9223372036854775807 then (impl_MatrixText.l0 k1 (x3_1 ++ (t176 ++ (⟨#[10]⟩ : ByteArray))) l0_2 (l0_2.length : Int) (wrap64 (x19_1 + 1))) else (none)) else (none)) = some r := H
        have A17 := Aside0.mk A170
        clear A170
        by_cases c18 : t176.size + 1 ≤ 9223372036854775807
        ·rw [if_pos c18] at H
         have c18b0 := eq_true c18
         have c18b1 : decide (t176.size + 1 ≤ 9223372036854775807) = true := decide_eq_true c18
         try have c18b2 : (9223372036854775807 < t176.size + 1) = False := eq_false (Nat.not_lt.2 c18)
         by_cases c19 : x3_1.size + (t176 ++ (⟨#[10]⟩ : ByteArray)).size ≤ 9223372036854775807
         ·rw [if_pos c19] at H
          have c19b0 := eq_true c19
          have c19b1 : decide (x3_1.size + (t176 ++ (⟨#[10]⟩ : ByteArray)).size ≤ 9223372036854775807) = true := decide_eq_true c19
          try have c19b2 : (9223372036854775807 < x3_1.size + (t176 ++ (⟨#[10]⟩ : ByteArray)).size) = False := eq_false (Nat.not_lt.2 c19)
          try have c19b2x : (9223372036854775807 < x3_1.size + (t176.size + 1)) = False := (by have h_ := c19b2; simp only [ByteArray.size_append] at h_; exact h_)
          have H' := Aside0.mk H
          clear H
          have p175 : 0 ≤ (x19_1 : Int) := of_decide_eq_true (by first | (with_reducible assumption) | assumption)
          have q175 : x19_1 < (l0_2.length : Int) := of_decide_eq_true (by first | (with_reducible assumption) | assumption)
          obtain ⟨ad175, A175_0, c175_0, e175, hx175_0, hl175_0, hi175_0⟩ := at_L1 HR0_2.out x19_1 p175 q175
          cases e175
          replace hx175_0 := (HB.out.cell (World.block_lt_of_cell? w _ hx175_0)).trans hx175_0
          have HR175_0 := Aside0.mk hi175_0
          have HC175_0 := Aside0.mk hl175_0
          clear hi175_0 hl175_0
          replace p175 := eq_true p175
          replace q175 := eq_true q175
          go_wp2_with (first | ((with_reducible refine gate_callee (f := 41) rfl ?_); refine goesL_ (some 25) rfl rfl Tryd.func41 (by kernel_rfl) rfl #[.string (⟨#[114, 111, 119]⟩ : ByteArray), .slice A175_0 (rd_L1 l0_2 x19_1).length c175_0] rfl (by (try simp only [List.map_toArray, List.map_cons, List.map_nil]); first | done | rfl | (simp only [List.length_drop, List.length_take]; rfl)) ?_; (with_reducible refine (impl_words.calls k1 (⟨#[114, 111, 119]⟩ : ByteArray) _ _ (rd_L1 l0_2 x19_1) t176 _ ?side1 ?side2 A17.out).mono ?_); (case side1 => repeat (first | exact (Kd.C_below HR175_0.out HB.out) | (with_reducible refine Kd.C_alloc ?_ _) | (with_reducible refine Kd.C_drewN ?_ _) | (with_reducible refine Kd.C_drew ?_))); (case side2 => exact HC175_0.out); rintro e w' ⟨rfl, ⟨nd, rfl⟩⟩; refine ⟨_, rfl, ?_⟩))
          go_roundg k1
          case measure => have := HK1.out; omega
          case rel => exact ⟨(x3_1 ++ (t176 ++ (⟨#[10]⟩ : ByteArray))), (wrap64 (x19_1 + 1)), (by first | rfl | (simp; done) | (simp [*]; done)), (by first | rfl | (simp; done) | (simp [*]; done)), H', ⟨by have := HK1.out; omega⟩, ⟨by (with_reducible repeat (first | refine blk_drewN ?_ _ | refine blk_drew ?_ | refine blk_alloc ?_ _)); exact BK169.out⟩, ⟨by repeat (first | (with_reducible first | exact HB.out | apply below_alloc | apply pw_below_drewN | apply below_drew1 | refine below_set ?_ GE169.out) | exact HB.out)⟩⟩
         ·rw [if_neg c19] at H
          exact absurd H (by simp)
        ·rw [if_neg c18] at H
         exact absurd H (by simp)
       ·rw [if_neg c16] at H
        exact absurd H (by simp)
      ·rw [if_neg c15] at H
       exact absurd H (by simp)
     ·rw [if_neg c14] at H
      have c14b0 : decide (x19_1 < (l0_2.length : Int)) = false := decide_eq_false c14
      clear c14
      obtain rfl := Option.some.inj H
      go_wp2
      go_ret
      exact ⟨by first | rfl | (simp [errW_none, errW_some] <;> rfl) | (simp [*, errW_none, errW_some] <;> rfl), by repeat (first | (with_reducible first | exact HB.out | apply below_alloc | apply pw_below_drewN | apply below_drew1 | refine below_set ?_ GE169.out) | exact HB.out)⟩
  ·rw [if_neg c5] at H
   exact absurd H (by simp)
 ·replace c3 := Bool.eq_false_iff.mpr c3
  subst c3
  have H1 : (some (⟨#[]⟩ : ByteArray)) = some r := by rw [if_neg (show ¬ (false = true) by decide)] at H; exact H
  clear H
  have H := H1
  clear H1
  obtain rfl := Option.some.inj H
  go_enter Tryd.func12, Tryd.ntmps12
  go_wp2_with (first | ((with_reducible refine gate_dst (N := 1) rfl ?_); refine box_event ?hg (N := 1) ?hd (cs := #[.int .i64 a0_0, .int .i64 a0_1, .slice A0_2 l0_2.length c0_2]) (t := 27) ?hr ?_; (case hd => rfl); (case hg => rfl); (case hr => first | (go_simp; done) | (go_simp; rfl)); intro gb169 hg w20 hbox hb; have n0_ := Aside0.mk (below_step (by repeat (first | (with_reducible first | exact HB.out | apply below_alloc | apply pw_below_drewN | apply below_drew1) | exact HB.out)) hb); have n1_ := Aside0.mk (hbox); have n2_ := Aside0.mk ((by rw [hg]; exact (below_size (by repeat (first | (with_reducible first | exact HB.out | apply below_alloc | apply pw_below_drewN | apply below_drew1) | exact HB.out))) : w.heap.size ≤ gb169)); have n3_ := Aside0.mk ((by rw [hg]; exact (below_size (by repeat (first | (with_reducible first | exact HB.out | apply below_alloc | apply pw_below_drewN | apply below_drew1) | exact HB.out))) : w.heap.size ≤ gb169)); clear HB; have HB := n0_; have BK169 := n1_; have GW169 := n2_; have GE169 := n3_; clear n0_ n1_ n2_ n3_; clear hb hbox hg; have hcz21_0 : w20.cell? ⟨gb169, 0, none⟩ = some (.int .i64 a0_0) := (blk_cell BK169.out 0).trans rfl; have hcz21_1 : w20.cell? ⟨gb169, 1, none⟩ = some (.int .i64 a0_1) := (blk_cell BK169.out 1).trans rfl; have hcz21_2 : w20.cell? ⟨gb169, 2, none⟩ = some (.slice A0_2 l0_2.length c0_2) := (blk_cell BK169.out 2).trans rfl; have hfz21_0 := blk_frozen BK169.out 0; have hfz21_1 := blk_frozen BK169.out 1; have hfz21_2 := blk_frozen BK169.out 2) | ((with_reducible refine gate_callee (f := 40) rfl ?_); refine goesL_ (some 7) rfl rfl Tryd.func40 (by kernel_rfl) rfl #[.agg #[.int .i64 a0_0, .int .i64 a0_1, .slice A0_2 l0_2.length c0_2]] rfl (by (try simp only [List.map_toArray, List.map_cons, List.map_nil]); first | done | rfl | (simp only [List.length_drop, List.length_take]; rfl)) ?_; (with_reducible refine (impl_ValidMatrix.calls k a0_0 a0_1 _ _ l0_2 false _ ?side1 ?side2 A2.out).mono ?_); (case side1 => repeat (first | exact (Kd.C_below HR0_2.out HB.out) | (with_reducible refine Kd.C_alloc ?_ _) | (with_reducible refine Kd.C_drewN ?_ _) | (with_reducible refine Kd.C_drew ?_))); (case side2 => exact HC0_2.out); rintro e w22 ⟨rfl, hb⟩; refine ⟨_, rfl, ?_⟩; have n0_ := Aside0.mk (blk_below (g := gb169) (o := .cells #[.int .i64 a0_0, .int .i64 a0_1, .slice A0_2 l0_2.length c0_2] 27 (0, 0)) (by (with_reducible repeat (first | refine blk_drewN ?_ _ | refine blk_drew ?_ | refine blk_alloc ?_ _)); exact BK169.out) hb); have n1_ := Aside0.mk (below_step (by repeat (first | (with_reducible first | exact HB.out | apply below_alloc | apply pw_below_drewN | apply below_drew1 | refine below_set ?_ GE169.out) | exact HB.out)) hb); clear BK169; clear HB; have BK169 := n0_; have HB := n1_; clear n0_ n1_; (try clear hb); (try clear hb2); (try clear hk); (try clear hi)))
  go_ret
  exact ⟨by first | rfl | (simp [errW_none, errW_some] <;> rfl) | (simp [*, errW_none, errW_some] <;> rfl), by repeat (first | (with_reducible first | exact HB.out | apply below_alloc | apply pw_below_drewN | apply below_drew1 | refine below_set ?_ GE169.out) | exact HB.out)⟩
open Go.Shelf in
def splitRen : Go.Shelf.Ren := ⟨fun | 146 => 63 | 221 => 99 | 268 => 119 | 138 => 120 | 143 => 121 | 195 => 138 | 197 => 139 | 218 => 140 | 219 => 137 | 260 => 157 | 217 => 153 | 225 => 154 | 224 => 155 | 267 => 156 | 266 => 161 | 314 => 162 | n => n, fun | 9 => 9 | 31 => 90 | 3 => 3 | 4 => 4 | 0 => 0 | 105 => 167 | 21 => 21 | 5 => 5 | 46 => 116 | 119 => 191 | 139 => 194 | 138 => 193 | 146 => 189 | 51 => 178 | n => n, fun | 1 => 3 | 3 => 4 | 4 => 5 | n => n⟩
open Go.Shelf in
theorem splitLays : Go.Proofs.Lays.n146 Tryd.prog splitRen := {
 mixed := by kernel_rfl
 f138 := Tryd.func120.trans (congrArg some (by kernel_rfl))
 f143 := Tryd.func121.trans (congrArg some (by kernel_rfl))
 f146 := Tryd.func63.trans (congrArg some (by kernel_rfl))
 f195 := Tryd.func138.trans (congrArg some (by kernel_rfl))
 f197 := Tryd.func139.trans (congrArg some (by kernel_rfl))
 f217 := Tryd.func153.trans (congrArg some (by kernel_rfl))
 f218 := Tryd.func140.trans (congrArg some (by kernel_rfl))
 f219 := Tryd.func137.trans (congrArg some (by kernel_rfl))
 f221 := Tryd.func99.trans (congrArg some (by kernel_rfl))
 f224 := Tryd.func155.trans (congrArg some (by kernel_rfl))
 f225 := Tryd.func154.trans (congrArg some (by kernel_rfl))
 f260 := Tryd.func157.trans (congrArg some (by kernel_rfl))
 f266 := Tryd.func161.trans (congrArg some (by kernel_rfl))
 f267 := Tryd.func156.trans (congrArg some (by kernel_rfl))
 f268 := Tryd.func119.trans (congrArg some (by kernel_rfl))
 f314 := Tryd.func162.trans (congrArg some (by kernel_rfl))
 t0 := Tryd.underlying0
 a0 := Tryd.isAgg0
 z0 := Tryd.sizeOf0
 v0 := Tryd.zeroValue0
 t3 := Tryd.underlying3
 a3 := Tryd.isAgg3
 z3 := Tryd.sizeOf3
 v3 := Tryd.zeroValue3
 t4 := Tryd.underlying4
 a4 := Tryd.isAgg4
 z4 := Tryd.sizeOf4
 v4 := Tryd.zeroValue4
 t5 := Tryd.underlying5
 a5 := Tryd.isAgg5
 z5 := Tryd.sizeOf5
 v5 := Tryd.zeroValue5
 t9 := Tryd.underlying9
 a9 := Tryd.isAgg9
 z9 := Tryd.sizeOf9
 v9 := Tryd.zeroValue9
 t21 := Tryd.underlying21
 a21 := Tryd.isAgg21
 z21 := Tryd.sizeOf21
 v21 := Tryd.zeroValue21
 t31 := Tryd.underlying90
 a31 := Tryd.isAgg90
 z31 := Tryd.sizeOf90
 v31 := Tryd.zeroValue90
 t46 := Tryd.underlying116
 a46 := Tryd.isAgg116
 z46 := Tryd.sizeOf116
 v46 := Tryd.zeroValue116
 t51 := Tryd.underlying178
 a51 := Tryd.isAgg178
 z51 := Tryd.sizeOf178
 v51 := Tryd.zeroValue178
 t105 := Tryd.underlying167
 a105 := Tryd.isAgg167
 z105 := Tryd.sizeOf167
 v105 := Tryd.zeroValue167
 t119 := Tryd.underlying191
 a119 := Tryd.isAgg191
 z119 := Tryd.sizeOf191
 t138 := Tryd.underlying193
 a138 := Tryd.isAgg193
 z138 := Tryd.sizeOf193
 v138 := Tryd.zeroValue193
 t139 := Tryd.underlying194
 a139 := Tryd.isAgg194
 z139 := Tryd.sizeOf194
 v139 := Tryd.zeroValue194
 t146 := Tryd.underlying189
 a146 := Tryd.isAgg189
 z146 := Tryd.sizeOf189
 v146 := Tryd.zeroValue189
 g1 := by kernel_rfl
 g3 := by kernel_rfl
 g4 := by kernel_rfl }
open Go.Shelf in
def piRen : Go.Shelf.Ren := ⟨fun | 174 => 70 | 247 => 103 | 245 => 104 | 287 => 123 | 279 => 124 | 280 => 125 | 281 => 126 | 282 => 127 | 321 => 141 | 322 => 142 | 316 => 143 | 171 => 145 | 205 => 144 | 243 => 158 | 246 => 111 | 283 => 130 | 284 => 131 | 285 => 132 | 286 => 133 | 129 => 147 | 317 => 146 | 318 => 148 | 319 => 149 | 320 => 150 | 337 => 159 | 338 => 160 | n => n, fun | 9 => 9 | 3 => 3 | 2 => 2 | 75 => 102 | 85 => 103 | 4 => 4 | 167 => 150 | 5 => 5 | 53 => 151 | 175 => 152 | 46 => 116 | 168 => 154 | 37 => 108 | 0 => 0 | 210 => 173 | 21 => 21 | 127 => 165 | 145 => 187 | 143 => 185 | 171 => 159 | 173 => 162 | 212 => 177 | 51 => 178 | 20 => 20 | 213 => 179 | 232 => 195 | 233 => 196 | 80 => 80 | n => n, fun | 15 => 0 | 16 => 1 | 17 => 2 | 18 => 6 | 19 => 7 | n => n⟩
open Go.Shelf in
theorem piLays : Go.Proofs.LaysC.n174 Tryd.prog piRen := {
 mixed := by kernel_rfl
 f129 := Tryd.func147.trans (congrArg some (by kernel_rfl))
 f171 := Tryd.func145.trans (congrArg some (by kernel_rfl))
 f174 := Tryd.func70.trans (congrArg some (by kernel_rfl))
 f205 := Tryd.func144.trans (congrArg some (by kernel_rfl))
 f243 := Tryd.func158.trans (congrArg some (by kernel_rfl))
 f245 := Tryd.func104.trans (congrArg some (by kernel_rfl))
 f246 := Tryd.func111.trans (congrArg some (by kernel_rfl))
 f247 := Tryd.func103.trans (congrArg some (by kernel_rfl))
 f279 := Tryd.func124.trans (congrArg some (by kernel_rfl))
 f280 := Tryd.func125.trans (congrArg some (by kernel_rfl))
 f281 := Tryd.func126.trans (congrArg some (by kernel_rfl))
 f282 := Tryd.func127.trans (congrArg some (by kernel_rfl))
 f283 := Tryd.func130.trans (congrArg some (by kernel_rfl))
 f284 := Tryd.func131.trans (congrArg some (by kernel_rfl))
 f285 := Tryd.func132.trans (congrArg some (by kernel_rfl))
 f286 := Tryd.func133.trans (congrArg some (by kernel_rfl))
 f287 := Tryd.func123.trans (congrArg some (by kernel_rfl))
 f316 := Tryd.func143.trans (congrArg some (by kernel_rfl))
 f317 := Tryd.func146.trans (congrArg some (by kernel_rfl))
 f318 := Tryd.func148.trans (congrArg some (by kernel_rfl))
 f319 := Tryd.func149.trans (congrArg some (by kernel_rfl))
 f320 := Tryd.func150.trans (congrArg some (by kernel_rfl))
 f321 := Tryd.func141.trans (congrArg some (by kernel_rfl))
 f322 := Tryd.func142.trans (congrArg some (by kernel_rfl))
 f337 := Tryd.func159.trans (congrArg some (by kernel_rfl))
 f338 := Tryd.func160.trans (congrArg some (by kernel_rfl))
 t0 := Tryd.underlying0
 a0 := Tryd.isAgg0
 z0 := Tryd.sizeOf0
 v0 := Tryd.zeroValue0
 t2 := Tryd.underlying2
 a2 := Tryd.isAgg2
 z2 := Tryd.sizeOf2
 v2 := Tryd.zeroValue2
 t3 := Tryd.underlying3
 a3 := Tryd.isAgg3
 z3 := Tryd.sizeOf3
 v3 := Tryd.zeroValue3
 t4 := Tryd.underlying4
 a4 := Tryd.isAgg4
 z4 := Tryd.sizeOf4
 v4 := Tryd.zeroValue4
 t5 := Tryd.underlying5
 a5 := Tryd.isAgg5
 z5 := Tryd.sizeOf5
 v5 := Tryd.zeroValue5
 t9 := Tryd.underlying9
 a9 := Tryd.isAgg9
 z9 := Tryd.sizeOf9
 v9 := Tryd.zeroValue9
 t20 := Tryd.underlying20
 a20 := Tryd.isAgg20
 z20 := Tryd.sizeOf20
 v20 := Tryd.zeroValue20
 t21 := Tryd.underlying21
 a21 := Tryd.isAgg21
 z21 := Tryd.sizeOf21
 v21 := Tryd.zeroValue21
 t37 := Tryd.underlying108
 a37 := Tryd.isAgg108
 z37 := Tryd.sizeOf108
 v37 := Tryd.zeroValue108
 t46 := Tryd.underlying116
 a46 := Tryd.isAgg116
 z46 := Tryd.sizeOf116
 v46 := Tryd.zeroValue116
 t51 := Tryd.underlying178
 a51 := Tryd.isAgg178
 z51 := Tryd.sizeOf178
 v51 := Tryd.zeroValue178
 t53 := Tryd.underlying151
 a53 := Tryd.isAgg151
 z53 := Tryd.sizeOf151
 v53 := Tryd.zeroValue151
 t75 := Tryd.underlying102
 a75 := Tryd.isAgg102
 z75 := Tryd.sizeOf102
 v75 := Tryd.zeroValue102
 t85 := Tryd.underlying103
 a85 := Tryd.isAgg103
 z85 := Tryd.sizeOf103
 v85 := Tryd.zeroValue103
 t127 := Tryd.underlying165
 a127 := Tryd.isAgg165
 z127 := Tryd.sizeOf165
 v127 := Tryd.zeroValue165
 t143 := Tryd.underlying185
 a143 := Tryd.isAgg185
 z143 := Tryd.sizeOf185
 v143 := Tryd.zeroValue185
 t145 := Tryd.underlying187
 a145 := Tryd.isAgg187
 z145 := Tryd.sizeOf187
 v145 := Tryd.zeroValue187
 t167 := Tryd.underlying150
 a167 := Tryd.isAgg150
 z167 := Tryd.sizeOf150
 v167 := Tryd.zeroValue150
 t168 := Tryd.underlying154
 a168 := Tryd.isAgg154
 z168 := Tryd.sizeOf154
 v168 := Tryd.zeroValue154
 t171 := Tryd.underlying159
 a171 := Tryd.isAgg159
 z171 := Tryd.sizeOf159
 v171 := Tryd.zeroValue159
 t173 := Tryd.underlying162
 a173 := Tryd.isAgg162
 z173 := Tryd.sizeOf162
 v173 := Tryd.zeroValue162
 t175 := Tryd.underlying152
 a175 := Tryd.isAgg152
 z175 := Tryd.sizeOf152
 v175 := Tryd.zeroValue152
 t210 := Tryd.underlying173
 a210 := Tryd.isAgg173
 z210 := Tryd.sizeOf173
 v210 := Tryd.zeroValue173
 t212 := Tryd.underlying177
 a212 := Tryd.isAgg177
 z212 := Tryd.sizeOf177
 v212 := Tryd.zeroValue177
 t213 := Tryd.underlying179
 a213 := Tryd.isAgg179
 z213 := Tryd.sizeOf179
 t232 := Tryd.underlying195
 a232 := Tryd.isAgg195
 z232 := Tryd.sizeOf195
 v232 := Tryd.zeroValue195
 t233 := Tryd.underlying196
 a233 := Tryd.isAgg196
 z233 := Tryd.sizeOf196
 v233 := Tryd.zeroValue196
 g15 := by kernel_rfl
 g16 := by kernel_rfl
 g17 := by kernel_rfl
 g18 := by kernel_rfl
 g19 := by kernel_rfl
 t80 := Tryd.underlying80
 a80 := Tryd.isAgg80
 z80 := Tryd.sizeOf80
 v80 := Tryd.zeroValue80
 i0 := by kernel_rfl
 i2 := by kernel_rfl
 i3 := by kernel_rfl
 i4 := by kernel_rfl
 i5 := by kernel_rfl
 i9 := by kernel_rfl
 i20 := by kernel_rfl
 i21 := by kernel_rfl
 i37 := by kernel_rfl
 i46 := by kernel_rfl
 i51 := by kernel_rfl
 i53 := by kernel_rfl
 i75 := by kernel_rfl
 i80 := by kernel_rfl
 i85 := by kernel_rfl
 i127 := by kernel_rfl
 i143 := by kernel_rfl
 i145 := by kernel_rfl
 i167 := by kernel_rfl
 i168 := by kernel_rfl
 i171 := by kernel_rfl
 i173 := by kernel_rfl
 i175 := by kernel_rfl
 i210 := by kernel_rfl
 i212 := by kernel_rfl
 i232 := by kernel_rfl
 i233 := by kernel_rfl
 m15 := by kernel_rfl
 m16 := by kernel_rfl
 m17 := by kernel_rfl
 m18 := by kernel_rfl
 m19 := by kernel_rfl
 c0 := by kernel_rfl
 c2 := by kernel_rfl
 c3 := by kernel_rfl
 c4 := by kernel_rfl
 c5 := by kernel_rfl
 c9 := by kernel_rfl
 c20 := by kernel_rfl
 c21 := by kernel_rfl
 c37 := by kernel_rfl
 c46 := by kernel_rfl
 c51 := by kernel_rfl
 c53 := by kernel_rfl
 c75 := by kernel_rfl
 c80 := by kernel_rfl
 c85 := by kernel_rfl
 c127 := by kernel_rfl
 c143 := by kernel_rfl
 c145 := by kernel_rfl
 c167 := by kernel_rfl
 c168 := by kernel_rfl
 c171 := by kernel_rfl
 c173 := by kernel_rfl
 c175 := by kernel_rfl
 c210 := by kernel_rfl
 c212 := by kernel_rfl
 c213 := by kernel_rfl
 c232 := by kernel_rfl
 c233 := by kernel_rfl }
open Go.Shelf in
def fmtMRen : Go.Shelf.Ren := ⟨fun | 173 => 88 | 246 => 111 | 283 => 130 | 284 => 131 | 285 => 132 | 286 => 133 | 129 => 147 | 317 => 146 | 318 => 148 | 319 => 149 | 320 => 150 | 337 => 159 | 338 => 160 | n => n, fun | 2 => 2 | 3 => 3 | 9 => 9 | 4 => 4 | 171 => 159 | 0 => 0 | 53 => 151 | 37 => 108 | 5 => 5 | 173 => 162 | 212 => 177 | 51 => 178 | 20 => 20 | 213 => 179 | 46 => 116 | 232 => 195 | 233 => 196 | n => n, fun | 17 => 2 | 18 => 6 | 19 => 7 | n => n⟩
open Go.Shelf in
theorem fmtMLays : Go.Proofs.LaysM.n173 Tryd.prog fmtMRen := {
 mixed := by kernel_rfl
 f129 := Tryd.func147.trans (congrArg some (by kernel_rfl))
 f173 := Tryd.func88.trans (congrArg some (by kernel_rfl))
 f246 := Tryd.func111.trans (congrArg some (by kernel_rfl))
 f283 := Tryd.func130.trans (congrArg some (by kernel_rfl))
 f284 := Tryd.func131.trans (congrArg some (by kernel_rfl))
 f285 := Tryd.func132.trans (congrArg some (by kernel_rfl))
 f286 := Tryd.func133.trans (congrArg some (by kernel_rfl))
 f317 := Tryd.func146.trans (congrArg some (by kernel_rfl))
 f318 := Tryd.func148.trans (congrArg some (by kernel_rfl))
 f319 := Tryd.func149.trans (congrArg some (by kernel_rfl))
 f320 := Tryd.func150.trans (congrArg some (by kernel_rfl))
 f337 := Tryd.func159.trans (congrArg some (by kernel_rfl))
 f338 := Tryd.func160.trans (congrArg some (by kernel_rfl))
 t0 := Tryd.underlying0
 a0 := Tryd.isAgg0
 z0 := Tryd.sizeOf0
 v0 := Tryd.zeroValue0
 t2 := Tryd.underlying2
 a2 := Tryd.isAgg2
 z2 := Tryd.sizeOf2
 v2 := Tryd.zeroValue2
 t3 := Tryd.underlying3
 a3 := Tryd.isAgg3
 z3 := Tryd.sizeOf3
 v3 := Tryd.zeroValue3
 t4 := Tryd.underlying4
 a4 := Tryd.isAgg4
 z4 := Tryd.sizeOf4
 v4 := Tryd.zeroValue4
 t5 := Tryd.underlying5
 a5 := Tryd.isAgg5
 z5 := Tryd.sizeOf5
 v5 := Tryd.zeroValue5
 t9 := Tryd.underlying9
 a9 := Tryd.isAgg9
 z9 := Tryd.sizeOf9
 v9 := Tryd.zeroValue9
 t20 := Tryd.underlying20
 a20 := Tryd.isAgg20
 z20 := Tryd.sizeOf20
 v20 := Tryd.zeroValue20
 t37 := Tryd.underlying108
 a37 := Tryd.isAgg108
 z37 := Tryd.sizeOf108
 v37 := Tryd.zeroValue108
 t46 := Tryd.underlying116
 a46 := Tryd.isAgg116
 z46 := Tryd.sizeOf116
 v46 := Tryd.zeroValue116
 t51 := Tryd.underlying178
 a51 := Tryd.isAgg178
 z51 := Tryd.sizeOf178
 v51 := Tryd.zeroValue178
 t53 := Tryd.underlying151
 a53 := Tryd.isAgg151
 z53 := Tryd.sizeOf151
 v53 := Tryd.zeroValue151
 t171 := Tryd.underlying159
 a171 := Tryd.isAgg159
 z171 := Tryd.sizeOf159
 v171 := Tryd.zeroValue159
 t173 := Tryd.underlying162
 a173 := Tryd.isAgg162
 z173 := Tryd.sizeOf162
 v173 := Tryd.zeroValue162
 t212 := Tryd.underlying177
 a212 := Tryd.isAgg177
 z212 := Tryd.sizeOf177
 v212 := Tryd.zeroValue177
 t213 := Tryd.underlying179
 a213 := Tryd.isAgg179
 z213 := Tryd.sizeOf179
 t232 := Tryd.underlying195
 a232 := Tryd.isAgg195
 z232 := Tryd.sizeOf195
 v232 := Tryd.zeroValue195
 t233 := Tryd.underlying196
 a233 := Tryd.isAgg196
 z233 := Tryd.sizeOf196
 v233 := Tryd.zeroValue196
 g17 := by kernel_rfl
 g18 := by kernel_rfl
 g19 := by kernel_rfl
 i0 := by kernel_rfl
 i2 := by kernel_rfl
 i3 := by kernel_rfl
 i4 := by kernel_rfl
 i5 := by kernel_rfl
 i9 := by kernel_rfl
 i20 := by kernel_rfl
 i37 := by kernel_rfl
 i46 := by kernel_rfl
 i51 := by kernel_rfl
 i53 := by kernel_rfl
 i171 := by kernel_rfl
 i173 := by kernel_rfl
 i212 := by kernel_rfl
 i232 := by kernel_rfl
 i233 := by kernel_rfl
 m17 := by kernel_rfl
 m18 := by kernel_rfl
 m19 := by kernel_rfl }
def Glob (w : World) : Prop := (∃ m, w.cell? ⟨3, 0, none⟩ = some (.int .i64 m)) ∧ (∃ ev, w.cell? ⟨0, 0, none⟩ = some ev ∧ (ev = .nilIface ∨ ∃ te pe, ev = .iface te pe)) ∧ (∃ ev, w.cell? ⟨1, 0, none⟩ = some ev ∧ (ev = .nilIface ∨ ∃ te pe, ev = .iface te pe)) ∧ Go.Lib.TabIs Tryd.prog w "internal/strconv.uint64pow10" .u64 Go.Lib.pow10Tab
theorem Glob.below {w w' : World} (h : Glob w) (hb : Below w.heap.size w w') : Glob w' := by
 obtain ⟨⟨m, hm⟩, ⟨e1, h1, k1⟩, ⟨e2, h2, k2⟩, ht⟩ := h
 have ht' : Go.Lib.TabIs Tryd.prog w' "internal/strconv.uint64pow10" .u64 Go.Lib.pow10Tab := by
  exact Go.Joins.tab_stays (g := 2) (by kernel_rfl) ht hb (Nat.le_refl _)
 exact ⟨⟨m, (hb.cell (World.block_lt_of_cell? _ _ hm)).trans hm⟩, ⟨e1, (hb.cell (World.block_lt_of_cell? _ _ h1)).trans h1, k1⟩, ⟨e2, (hb.cell (World.block_lt_of_cell? _ _ h2)).trans h2, k2⟩, ht'⟩
def splitL (s sep : ByteArray) : List ByteArray := Go.Lib.splitB sep 0 (Go.Lib.countB s sep) s
theorem split_calls (s sep : ByteArray) (w : World) (hs : s.size ≤ 1048576) (h1 : 1 ≤ sep.size) (hG : Glob w) :
  Calls Tryd.prog 63 #[.string s, .string sep] w fun e w' => ∃ v, e = .returned v ∧ Kd.R Kd.string 9 w' w.heap.size (fun _ => True) v (splitL s sep) ∧ Below w.heap.size w w' := by
 obtain ⟨⟨m, hm⟩, _⟩ := hG
 have hlen := Go.Lib.splitB_all sep h1 0 _ s rfl
 have hle := Go.Lib.countB_le sep h1 s.size s (Nat.le_refl _)
 refine (Go.Proofs.Any.strings_Split splitLays (by kernel_rfl) s sep m w (by omega) hm h1).mono ?_
 rintro e w' ⟨rfl, rfl⟩
 have hO := OwnRow.lit (e := 9) (size := 1) (ps := splitL s sep) w w.heap.size (Kd.reps_scalar (enc := Value.string) (splitL s sep)) (Nat.le_refl _) (by unfold splitL; omega)
 refine ⟨.slice (some ⟨w.heap.size, 0, none⟩) (splitL s sep).length (splitL s sep).length, ?_, ⟨fun _ _ => trivial, hO⟩, below_alloc (Below.refl _ _) _⟩
 unfold splitL
 rw [hlen]
def piB (s : ByteArray) : Int × Bool := match Go.Lib.parseIntB 64 s.data.toList with
 | .ok v => (v, false)
 | .range => (Go.Lib.intSat 64 s.data.toList, true)
 | _ => (0, true)
theorem pi_calls (s : ByteArray) (w : World) (hs : s.size ≤ 1048576) (hG : Glob w) :
  Calls Tryd.prog 70 #[.string s, .int .i64 10, .int .i64 64] w fun e w' => ∃ u, e = .returned (.tuple #[.int .i64 (piB s).1, u]) ∧ ((piB s).2 = false → u = .nilIface) ∧ ((piB s).2 = true → ∃ N, u = .iface 154 (.pointer (some ⟨N, 0, none⟩))) ∧ Below w.heap.size w w' := by
 obtain ⟨_, ⟨e1, h1, k1⟩, ⟨e2, h2, k2⟩, _⟩ := hG
 cases hp : Go.Lib.parseIntB 64 s.data.toList with
 | ok v =>
  have e0 : piB s = (v, false) := by unfold piB; rw [hp]
  rw [e0]
  refine (Go.Proofs.Any.strconv_ParseInt_10_at64_ok piLays s (by omega) v hp w).mono ?_
  rintro e w' ⟨rfl, hw⟩
  refine ⟨_, rfl, fun _ => rfl, fun h => by simp at h, ?_⟩
  rcases hw with rfl | ⟨t, rfl⟩
  ·exact Below.refl _ _
  ·exact Go.Joins.below_bytesWorld _ _ _ _ (Nat.le_refl _)
 | range =>
  have e0 : piB s = (Go.Lib.intSat 64 s.data.toList, true) := by unfold piB; rw [hp]
  rw [e0]
  refine (Go.Proofs.Any.strconv_ParseInt_10_at64_range piLays s (by omega) hp e2 w h2 k2).mono ?_
  rintro e w' ⟨N, rfl, _, _, hb⟩
  exact ⟨_, rfl, fun h => by simp at h, fun _ => ⟨N, rfl⟩, hb⟩
 | _ =>
  have e0 : piB s = (0, true) := by unfold piB; rw [hp]
  rw [e0]
  refine (Go.Proofs.Any.strconv_ParseInt_10_at64_syntax piLays s (by omega) hp e1 w h1 k1).mono ?_
  rintro e w' ⟨N, rfl, _, _, hb⟩
  exact ⟨_, rfl, fun h => by simp at h, fun _ => ⟨N, rfl⟩, hb⟩
theorem fmt_calls (n : Int) (h0 : -9223372036854775808 ≤ n) (h1 : n ≤ 9223372036854775807) (w : World) (hG : Glob w) :
  Calls Tryd.prog 88 #[.int .i64 n, .int .i64 10] w fun e w' => e = .returned (.string ⟨(Go.Lib.itoa n).toArray⟩) ∧ Below w.heap.size w w' := by
 obtain ⟨_, _, _, ht⟩ := hG
 refine (Go.Proofs.Any.strconv_FormatInt_10 fmtMLays n h0 h1 w ht).mono ?_
 rintro e w' ⟨rfl, k, os, rfl⟩
 exact ⟨rfl, ⟨rfl, rfl, rfl, by show w.heap.size ≤ (w.heap ++ os).size; rw [Array.size_append]; omega, fun j hj => by
  show (w.heap ++ os)[j]? = _
  rw [Array.getElem?_append_left hj]⟩⟩
def strings_Split.f (a0 : ByteArray) (a1 : ByteArray) : Option (List ByteArray) := if a0.size ≤ 1048576 ∧ 1 ≤ a1.size then some (splitL a0 a1) else none
theorem strings_Split.calls (a0 : ByteArray) (a1 : ByteArray) (r : List ByteArray) (w : World) (hG : Glob w) (h : strings_Split.f a0 a1 = some r) :
  Calls Tryd.prog 63 #[.string a0, .string a1] w fun e w' => ∃ v : Value, e = .returned v ∧ Kd.R Kd.string 9 w' w.heap.size (fun _ => True) v r ∧ Below w.heap.size w w' := by
 unfold strings_Split.f at h
 by_cases c : a0.size ≤ 1048576 ∧ 1 ≤ a1.size
 ·rw [if_pos c] at h
  obtain rfl := Option.some.inj h
  exact split_calls a0 a1 w c.1 c.2 hG
 ·rw [if_neg c] at h
  exact absurd h (by simp)
def strconv_ParseInt_70.f (a0 : ByteArray) (a1 : Int) (a2 : Int) : Option (Int × Bool) := if (a1 = 10 ∧ a2 = 64) ∧ a0.size ≤ 1048576 then some (piB a0) else none
theorem strconv_ParseInt_70.calls (a0 : ByteArray) (a1 : Int) (a2 : Int) (r1 : Int) (r2 : Bool) (w : World) (hG : Glob w) (h : strconv_ParseInt_70.f a0 a1 a2 = some (r1, r2)) :
  Calls Tryd.prog 70 #[.string a0, .int .i64 a1, .int .i64 a2] w fun e w' => ∃ u, e = .returned (.tuple #[.int .i64 r1, u]) ∧ (r2 = false → u = .nilIface) ∧ (r2 = true → ∃ T N, u = .iface T (.pointer (some ⟨N, 0, none⟩))) ∧ Below w.heap.size w w' := by
 unfold strconv_ParseInt_70.f at h
 by_cases c : (a1 = 10 ∧ a2 = 64) ∧ a0.size ≤ 1048576
 ·rw [if_pos c] at h
  replace h := Option.some.inj h
  obtain ⟨⟨rfl, rfl⟩, c2⟩ := c
  refine (pi_calls a0 w c2 hG).mono ?_
  rintro e w' ⟨u, rfl, h1, h2, hb⟩
  rw [h] at h1 h2 ⊢
  exact ⟨u, rfl, h1, fun hr => by obtain ⟨N, hN⟩ := h2 hr; exact ⟨_, N, hN⟩, hb⟩
 ·rw [if_neg c] at h
  exact absurd h (by simp)
def impl_decimalG.f (a0 : Int) : Option ByteArray := if -9223372036854775808 ≤ a0 ∧ a0 ≤ 9223372036854775807 then some ⟨(Go.Lib.itoa a0).toArray⟩ else none
set_option maxHeartbeats 8000000 in
set_option maxRecDepth 100000 in
theorem impl_decimalG.calls (a0 : Int) (r : ByteArray) (w : World) (hG : Glob w) (h : impl_decimalG.f a0 = some r) :
  Calls Tryd.prog 46 #[.int .i64 a0] w fun e w' => e = .returned (.string r) ∧ Below w.heap.size w w' := by
 unfold impl_decimalG.f at h
 by_cases c : -9223372036854775808 ≤ a0 ∧ a0 ≤ 9223372036854775807
 ·rw [if_pos c] at h
  obtain rfl := Option.some.inj h
  have C := Aside0.mk (fun w hG => fmt_calls a0 c.1 c.2 w hG)
  have HG := Aside0.mk hG
  clear h c hG
  go_enter Tryd.func46, Tryd.ntmps46
  go_wp2_with (first | (go_at_call 88; (with_reducible refine (C.out _ HG.out).mono ?_); rintro e w' ⟨rfl, hb⟩))
  go_ret
  exact ⟨rfl, hb⟩
 ·rw [if_neg c] at h
  exact absurd h (by simp)
def impl_wordsG.l0 : Nat → ByteArray → List Int → Int → Int → Option (ByteArray)
 | 0, _, _, _, _ => none
 | k + 1, x5, x9, x10, x11 => if x11 < x10 then (if 0 ≤ x11 then (if x11 < (x9.length : Int) then ((impl_decimalG.f (rd x9 x11)).bind fun t168 => (if 1 + t168.size ≤ 9223372036854775807 then (if x5.size + ((⟨#[32]⟩ : ByteArray) ++ t168).size ≤ 9223372036854775807 then (impl_wordsG.l0 k (x5 ++ ((⟨#[32]⟩ : ByteArray) ++ t168)) x9 x10 (wrap64 (x11 + 1))) else (none)) else (none))) else (none)) else (none)) else (some x5)
def impl_wordsG.f (k : Nat) (a0 : ByteArray) (l1 : List Int) : Option (ByteArray) := impl_wordsG.l0 k a0 l1 (l1.length : Int) 0
set_option maxHeartbeats 8000000 in
set_option maxRecDepth 100000 in
theorem impl_wordsG.calls (k : Nat) (a0 : ByteArray) (A1 : Option Addr) (c1 : Nat) (l1 : List Int) (r : ByteArray) (w : World) (hr1 : Kd.C (Kd.int .i64) w A1 l1.length l1) (hc1 : l1.length ≤ c1) (hG : Glob w) (h : impl_wordsG.f k a0 l1 = some r) :
  Calls Tryd.prog 41 #[.string a0, .slice A1 l1.length c1] w fun e w' => e = .returned (.string r) ∧ Below w.heap.size w w' := by
 have HG := Aside0.mk hG
 clear hG
 have HR1 := Aside0.mk hr1
 have HC1 := Aside0.mk hc1
 clear hr1 hc1
 have HB := Aside0.mk (Below.refl w.heap.size w)
 have H : (impl_wordsG.l0 k a0 l1 (l1.length : Int) 0) = some r := h
 clear h
 have H' := Aside0.mk H
 clear H
 go_enter Tryd.func41, Tryd.ntmps41
 go_wp2
 go_loopg [5, 11] k (fun kq v5 v11 w' => ∃ (x5_1 : ByteArray) (x11_1 : Int), v5 = .string x5_1 ∧ v11 = .int .i64 x11_1 ∧ Aside0 (impl_wordsG.l0 kq x5_1 l1 (l1.length : Int) x11_1 = some r) ∧ Aside0 (kq ≤ k) ∧ Aside0 (Below w.heap.size w w'))
 case atStart => exact ⟨(a0), (0), (by first | rfl | (simp; done) | (simp [*]; done)), (by first | rfl | (simp; done) | (simp [*]; done)), H', ⟨Nat.le_refl _⟩, ⟨by repeat (first | (with_reducible first | exact HB.out | apply below_alloc | apply pw_below_drewN | apply below_drew1) | exact HB.out)⟩⟩
 case round =>
  clear H'
  try clear c1
  try clear p2
  obtain ⟨x5_1, x11_1, rfl, rfl, HA, HK1, HB⟩ := hrel
  cases gk with
  | zero => exact absurd HA.out (by simp [impl_wordsG.l0])
  | succ k1 =>
   have H := HA.out
   clear HA
   simp only [impl_wordsG.l0] at H
   by_cases c3 : x11_1 < (l1.length : Int)
   ·rw [if_pos c3] at H
    have c3b0 : decide (x11_1 < (l1.length : Int)) = true := decide_eq_true c3
    clear c3
    by_cases c4 : 0 ≤ x11_1
    ·rw [if_pos c4] at H
     have c4b0 : decide (0 ≤ x11_1) = true := decide_eq_true c4
     clear c4
     by_cases c5 : x11_1 < (l1.length : Int)
     ·rw [if_pos c5] at H
      have c5b0 : decide (x11_1 < (l1.length : Int)) = true := decide_eq_true c5
      clear c5
      replace H := Option.bind_eq_some_iff.mp H
      obtain ⟨t168, A60, H⟩ := H
      replace H : (if 1 + t168.size ≤ 9223372036854775807 then (if x5_1.size + ((⟨#[32]⟩ : ByteArray) ++ t168).size ≤ 9223372036854775807 then (impl_wordsG.l0 k1 (x5_1 ++ ((⟨#[32]⟩ : ByteArray) ++ t168)) l1 (l1.length : Int) (wrap64 (x11_1 + 1))) else (none)) else (none)) = some r := H
      have A6 := Aside0.mk A60
      clear A60
      by_cases c7 : 1 + t168.size ≤ 9223372036854775807
      ·rw [if_pos c7] at H
       have c7b0 := eq_true c7
       have c7b1 : decide (1 + t168.size ≤ 9223372036854775807) = true := decide_eq_true c7
       try have c7b2 : (9223372036854775807 < 1 + t168.size) = False := eq_false (Nat.not_lt.2 c7)
       by_cases c8 : x5_1.size + ((⟨#[32]⟩ : ByteArray) ++ t168).size ≤ 9223372036854775807
       ·rw [if_pos c8] at H
        have c8b0 := eq_true c8
        have c8b1 : decide (x5_1.size + ((⟨#[32]⟩ : ByteArray) ++ t168).size ≤ 9223372036854775807) = true := decide_eq_true c8
        try have c8b2 : (9223372036854775807 < x5_1.size + ((⟨#[32]⟩ : ByteArray) ++ t168).size) = False := eq_false (Nat.not_lt.2 c8)
        try have c8b2x : (9223372036854775807 < x5_1.size + (1 + t168.size)) = False := (by have h_ := c8b2; simp only [ByteArray.size_append] at h_; exact h_)
        try have c8b2x : (9223372036854775807 < x5_1.size + (1 + t168.size)) = False := (by have h_ := c8b2; simp only [ByteArray.size_append] at h_; exact h_)
        have H' := Aside0.mk H
        clear H
        have p167 : 0 ≤ (x11_1 : Int) := of_decide_eq_true (by first | (with_reducible assumption) | assumption)
        have q167 : x11_1 < (l1.length : Int) := of_decide_eq_true (by first | (with_reducible assumption) | assumption)
        obtain ⟨ad167, e167, hx167_0⟩ := Kd.at_int HR1.out x11_1 p167 q167
        cases e167
        replace hx167_0 := (HB.out.cell (World.block_lt_of_cell? w _ hx167_0)).trans hx167_0
        replace p167 := eq_true p167
        replace q167 := eq_true q167
        go_wp2_with (first | ((with_reducible refine gate_callee (f := 46) rfl ?_); refine goesL_ (some 17) rfl rfl Tryd.func46 (by kernel_rfl) rfl #[.int .i64 (rd l1 x11_1)] rfl (by (try simp only [List.map_toArray, List.map_cons, List.map_nil]); first | done | rfl | (simp only [List.length_drop, List.length_take]; rfl)) ?_; (with_reducible refine (impl_decimalG.calls (rd l1 x11_1) t168 _ ?sideG A6.out).mono ?_); (case sideG => exact Glob.below HG.out (by repeat (first | (with_reducible first | exact HB.out | apply below_alloc | apply pw_below_drewN | apply below_drew1) | exact HB.out))); rintro e w9 ⟨rfl, hb⟩; refine ⟨_, rfl, ?_⟩; have n0_ := Aside0.mk (below_step (by repeat (first | (with_reducible first | exact HB.out | apply below_alloc | apply pw_below_drewN | apply below_drew1) | exact HB.out)) hb); clear HB; have HB := n0_; clear n0_; (try clear hb); (try clear hb2); (try clear hk); (try clear hi)))
        go_roundg k1
        case measure => have := HK1.out; omega
        case rel => exact ⟨(x5_1 ++ ((⟨#[32]⟩ : ByteArray) ++ t168)), (wrap64 (x11_1 + 1)), (by first | rfl | (simp; done) | (simp [*]; done)), (by first | rfl | (simp; done) | (simp [*]; done)), H', ⟨by have := HK1.out; omega⟩, ⟨by repeat (first | (with_reducible first | exact HB.out | apply below_alloc | apply pw_below_drewN | apply below_drew1) | exact HB.out)⟩⟩
       ·rw [if_neg c8] at H
        exact absurd H (by simp)
      ·rw [if_neg c7] at H
       exact absurd H (by simp)
     ·rw [if_neg c5] at H
      exact absurd H (by simp)
    ·rw [if_neg c4] at H
     exact absurd H (by simp)
   ·rw [if_neg c3] at H
    have c3b0 : decide (x11_1 < (l1.length : Int)) = false := decide_eq_false c3
    clear c3
    obtain rfl := Option.some.inj H
    go_wp2
    go_ret
    exact ⟨by first | rfl | (simp [errW_none, errW_some] <;> rfl) | (simp [*, errW_none, errW_some] <;> rfl), by repeat (first | (with_reducible first | exact HB.out | apply below_alloc | apply pw_below_drewN | apply below_drew1) | exact HB.out)⟩
def impl_readWords.l0 : Nat → ByteArray → ByteArray → List Int → List ByteArray → Int → Int → Option (List Int × Bool)
 | 0, _, _, _, _, _, _ => none
 | k + 1, x0, x1, x7, x16, x17, x18 => if x18 < x17 then (if 0 ≤ x18 then (if x18 < (x16.length : Int) then ((strconv_ParseInt_70.f (rdOf ByteArray.empty x16 x18) 10 64).bind fun bt503 => (if bt503.2 = true then (some (([] : List Int), false)) else (if x7.length < 17592186044416 then (impl_readWords.l0 k x0 x1 (x7 ++ [bt503.1]) x16 x17 (wrap64 (x18 + 1))) else (none)))) else (none)) else (none)) else ((impl_wordsG.f k x1 x7).bind fun t508 => (some (x7, (t508.toList == x0.toList))))
def impl_readWords.f (k : Nat) (a0 : ByteArray) (a1 : ByteArray) : Option (List Int × Bool) := (strings_Split.f a0 (⟨#[32]⟩ : ByteArray)).bind fun t492 => (if 1 ≤ (t492.length : Int) then ((some (t492.drop 1 : List ByteArray)).bind fun y498 => (impl_readWords.l0 k a0 a1 (([] : List Int)) y498 (y498.length : Int) 0)) else (none))
set_option maxHeartbeats 8000000 in
set_option maxRecDepth 100000 in
theorem impl_readWords.calls (k : Nat) (a0 : ByteArray) (a1 : ByteArray) (r1 : List Int) (r2 : Bool) (w : World) (hG : Glob w) (h : impl_readWords.f k a0 a1 = some (r1, r2)) :
  Calls Tryd.prog 64 #[.string a0, .string a1] w fun e w' => ∃ v0_ : Value, e = .returned (.tuple #[v0_, .bool r2]) ∧ Kd.R (Kd.int .i64) 2 w' w.heap.size (fun _ => True) v0_ r1 ∧ Below w.heap.size w w' := by
 have HG := Aside0.mk hG
 clear hG
 have HB := Aside0.mk (Below.refl w.heap.size w)
 have H : ((strings_Split.f a0 (⟨#[32]⟩ : ByteArray)).bind fun t492 => (if 1 ≤ (t492.length : Int) then ((some (t492.drop 1 : List ByteArray)).bind fun y498 => (impl_readWords.l0 k a0 a1 (([] : List Int)) y498 (y498.length : Int) 0)) else (none))) = some (r1, r2) := h
 clear h
 replace H := Option.bind_eq_some_iff.mp H
 obtain ⟨t492, A30, H⟩ := H
 replace H : (if 1 ≤ (t492.length : Int) then ((some (t492.drop 1 : List ByteArray)).bind fun y498 => (impl_readWords.l0 k a0 a1 (([] : List Int)) y498 (y498.length : Int) 0)) else (none)) = some (r1, r2) := H
 have A3 := Aside0.mk A30
 clear A30
 obtain ⟨y495, hy495⟩ : ∃ y_ : List Int, y_ = (([] : List Int)) := ⟨_, rfl⟩
 replace H : (if 1 ≤ (t492.length : Int) then ((some (t492.drop 1 : List ByteArray)).bind fun y498 => (impl_readWords.l0 k a0 a1 y495 y498 (y498.length : Int) 0)) else (none)) = some (r1, r2) := by first | (rw [hy495]; with_reducible exact H) | (have H2_ := (Option.bind_some _ _).symm.trans H; rw [hy495]; with_reducible exact H2_) | (have H2_ := (Option.bind_some _ _).symm.trans H; with_reducible exact H2_) | with_reducible exact H | (rw [hy495]; exact H) | exact H
 have Ny495 := Aside0.mk hy495
 clear hy495
 by_cases c4 : 1 ≤ (t492.length : Int)
 ·rw [if_pos c4] at H
  have c4b0 := eq_true c4
  have c4b1 : decide (1 ≤ (t492.length : Int)) = true := decide_eq_true c4
  clear c4
  obtain ⟨y498, hy498⟩ : ∃ y_ : List ByteArray, y_ = (t492.drop 1) := ⟨_, rfl⟩
  replace H : (impl_readWords.l0 k a0 a1 y495 y498 (y498.length : Int) 0) = some (r1, r2) := by first | (rw [hy498]; with_reducible exact H) | (have H2_ := (Option.bind_some _ _).symm.trans H; rw [hy498]; with_reducible exact H2_) | (have H2_ := (Option.bind_some _ _).symm.trans H; with_reducible exact H2_) | with_reducible exact H | (rw [hy498]; exact H) | exact H
  have Ny498 := Aside0.mk hy498
  clear hy498
  have H' := Aside0.mk H
  clear H
  go_enter Tryd.func64, Tryd.ntmps64
  go_wp2_with (first | ((with_reducible refine gate_callee (f := 63) rfl ?_); refine goesL_ (some 13) rfl rfl Tryd.func63 (by kernel_rfl) rfl #[.string a0, .string (⟨#[32]⟩ : ByteArray)] rfl (by (try simp only [List.map_toArray, List.map_cons, List.map_nil]); first | done | rfl | (simp only [List.length_drop, List.length_take]; rfl)) ?_; (with_reducible refine (strings_Split.calls a0 (⟨#[32]⟩ : ByteArray) t492 _ ?sideG A3.out).mono ?_); (case sideG => exact Glob.below HG.out (by repeat (first | (with_reducible first | exact HB.out | apply below_alloc | apply pw_below_drewN | apply below_drew1) | exact HB.out))); rintro e w5 ⟨v493, rfl, ho0, hb⟩; refine ⟨_, rfl, ?_⟩; have n0_ := Aside0.mk (Kd.R_lower ho0 (below_size (by repeat (first | (with_reducible first | exact HB.out | apply below_alloc | apply pw_below_drewN | apply below_drew1) | exact HB.out)))); have n1_ := Aside0.mk (below_step (by repeat (first | (with_reducible first | exact HB.out | apply below_alloc | apply pw_below_drewN | apply below_drew1) | exact HB.out)) hb); clear HB; have HO494 := n0_; have HB := n1_; clear n0_ n1_; (try clear hb); (try clear hb2); (try clear hk); (try clear hi); (try clear ho0); have HBw := Aside0.mk HB.out; clear HB; have HB := Aside0.mk (Below.refl w5.heap.size w5); have HG5 := Aside0.mk (Glob.below HG.out HBw.out); clear HG; have HG := HG5; clear HG5; obtain ⟨Ao9, co9, eo9⟩ := Kd.R_slice HO494.out; subst eo9; have q8 : (1 : Int) ≤ ((t492.length : Int) : Int) := of_decide_eq_true (by first | (with_reducible assumption) | assumption); obtain ⟨i08, hi08, _, hsz8, _⟩ := info_parts info9; have hroom8 : t492.length ≤ co9 := (Kd.R_reads' HO494.out).2.1; have hC8 : Kd.C Kd.string _ Ao9 t492.length t492 := (Kd.R_reads' HO494.out).2.2; have hcut8 := cut_from (P := Tryd.prog) 90 9 .i64 Tryd.underlying90 hi08 1 hsz8 Ao9 t492.length co9 1 (by omega) q8; have hr8 := Kd.C_drop (m := (1 : Int).toNat) (c := co9) hC8 (by omega) hroom8; obtain ⟨A8, hA8⟩ : ∃ A1, A1 = (if co9 = (1 : Int).toNat then Ao9 else (Ao9 : Option Addr).map (·.add ((1 : Int).toNat * 1))) := ⟨_, rfl⟩; obtain ⟨c8, hc8⟩ : ∃ c1, c1 = co9 - (1 : Int).toNat := ⟨_, rfl⟩; have hy8 : y498.length = t492.length - (1 : Int).toNat := (by rw [Ny498.out, List.length_drop] <;> omega); rw [show (t492).drop (1 : Int).toNat = y498 from Ny498.out.symm] at hr8; replace hr8 : Kd.C Kd.string _ A8 y498.length y498 := (by rw [hA8]; exact hr8); rw [← hy8, ← hA8, ← hc8] at hcut8; have HR501 := Aside0.mk hr8; have HC501 := Aside0.mk (show y498.length ≤ c8 from by rw [hy8, hc8]; exact Nat.sub_le_sub_right hroom8 _); clear hr8 hC8 hroom8 hi08 hsz8 hc8; have KY8 := Aside0.mk hy8; have KA8 := Aside0.mk hA8; clear hy8 hA8; have KL8 := Aside0.mk (show 1 ≤ t492.length from by omega); replace q8 := eq_true q8) | ((with_reducible refine gate_dst (N := 14) rfl ?_); refine Kd.R_lit (Kd.int .i64) _ 2 ?hg (N := 14) ?hd (xs := ([] : List Int)) (inner := []) (ok := fun _ => True) (okp := fun _ => True) ?hr ?hp (fun _ hk => hk) trivial (Below.refl _ _) (Nat.le_refl _) (by simp) ?_; (case hd => rfl); (case hg => rfl); (case hr => first | (go_simp; done) | (go_simp; rfl)); (case hp => exact (Reps.none _ _)); intro v496 w6 ho7 hb hg_ hnew_; clear hg_ hnew_; (first | rw [← Ny495.out] at ho7 | (simp only [Int.reduceToNat] at ho7; rw [← Ny495.out] at ho7)); have n1_ := Aside0.mk (Kd.R_lower ho7 (below_size (by repeat (first | (with_reducible first | exact HB.out | apply below_alloc | apply pw_below_drewN | apply below_drew1) | exact HB.out)))); have n2_ := Aside0.mk (below_step (by repeat (first | (with_reducible first | exact HB.out | apply below_alloc | apply pw_below_drewN | apply below_drew1) | exact HB.out)) hb); clear HB; have HO497 := n1_; have HB := n2_; clear n1_ n2_; clear hb ho7))
  go_loopg [7, 18] k (fun kq v7 v18 w' => ∃ (x7_1 : List Int) (x18_1 : Int), v18 = .int .i64 x18_1 ∧ Aside0 (impl_readWords.l0 kq a0 a1 x7_1 y498 (y498.length : Int) x18_1 = some (r1, r2)) ∧ Aside0 (kq ≤ k) ∧ Aside0 (Kd.R (Kd.int .i64) 2 w' w5.heap.size (fun _ => True) v7 x7_1) ∧ Aside0 (Below w5.heap.size w5 w'))
  case atStart => exact ⟨(y495), (0), (by first | rfl | (simp; done) | (simp [*]; done)), H', ⟨Nat.le_refl _⟩, ⟨by (with_reducible repeat (first | apply Kd.R_alloc | apply Kd.R_drewN | apply Kd.R_drew)); exact HO497.out⟩, ⟨by repeat (first | (with_reducible first | exact HB.out | apply below_alloc | apply pw_below_drewN | apply below_drew1) | exact HB.out)⟩⟩
  case round =>
   clear H'
   try clear c1
   try clear p2
   try clear c4
   try clear c4b0
   try clear c4b1
   try clear c6
   try clear c8
   try clear q8
   try clear q8
   obtain ⟨x7_1, x18_1, rfl, HA, HK1, HO_7, HB⟩ := hrel
   cases gk with
   | zero => exact absurd HA.out (by simp [impl_readWords.l0])
   | succ k1 =>
    have H := HA.out
    clear HA
    simp only [impl_readWords.l0] at H
    by_cases c10 : x18_1 < (y498.length : Int)
    ·rw [if_pos c10] at H
     have c10b0 : decide (x18_1 < (y498.length : Int)) = true := decide_eq_true c10
     clear c10
     by_cases c11 : 0 ≤ x18_1
     ·rw [if_pos c11] at H
      have c11b0 : decide (0 ≤ x18_1) = true := decide_eq_true c11
      clear c11
      by_cases c12 : x18_1 < (y498.length : Int)
      ·rw [if_pos c12] at H
       have c12b0 : decide (x18_1 < (y498.length : Int)) = true := decide_eq_true c12
       clear c12
       replace H := Option.bind_eq_some_iff.mp H
       obtain ⟨⟨t503, t504⟩, A130, H⟩ := H
       replace H : (if t504 = true then (some (([] : List Int), false)) else (if x7_1.length < 17592186044416 then (impl_readWords.l0 k1 a0 a1 (x7_1 ++ [t503]) y498 (y498.length : Int) (wrap64 (x18_1 + 1))) else (none))) = some (r1, r2) := H
       have A13 := Aside0.mk A130
       clear A130
       by_cases c14 : t504 = true
       ·subst c14
        have H1 : (some (([] : List Int), false)) = some (r1, r2) := by rw [if_pos rfl] at H; exact H
        clear H
        have H := H1
        clear H1
        simp only [Option.some.injEq, Prod.mk.injEq] at H
        obtain ⟨rfl, rfl⟩ := H
        have p502 : 0 ≤ (x18_1 : Int) := of_decide_eq_true (by first | (with_reducible assumption) | assumption)
        have q502 : x18_1 < (y498.length : Int) := of_decide_eq_true (by first | (with_reducible assumption) | assumption)
        obtain ⟨ad502, e502, hx502_0⟩ := Kd.at_string HR501.out x18_1 p502 q502
        cases e502
        replace hx502_0 := (HB.out.cell (World.block_lt_of_cell? w5 _ hx502_0)).trans hx502_0
        replace p502 := eq_true p502
        replace q502 := eq_true q502
        go_wp2_with (first | ((with_reducible refine gate_callee (f := 70) rfl ?_); refine goesL_ (some 24) rfl rfl Tryd.func70 (by kernel_rfl) rfl #[.string (rdOf ByteArray.empty y498 x18_1), .int .i64 10, .int .i64 64] rfl (by (try simp only [List.map_toArray, List.map_cons, List.map_nil]); first | done | rfl | (simp only [List.length_drop, List.length_take]; rfl)) ?_; (with_reducible refine (strconv_ParseInt_70.calls (rdOf ByteArray.empty y498 x18_1) 10 64 t503 true _ ?sideG A13.out).mono ?_); (case sideG => exact Glob.below HG.out (by repeat (first | (with_reducible first | exact HB.out | apply below_alloc | apply pw_below_drewN | apply below_drew1) | exact HB.out))); rintro e w15 ⟨u_, rfl, hu0_, hu1_, hb⟩; (first | (obtain rfl := hu0_ rfl; clear hu0_ hu1_) | (obtain ⟨T_, N_, rfl⟩ := hu1_ rfl; clear hu0_ hu1_) | (have HU0 := Aside0.mk hu0_; have HU1 := Aside0.mk hu1_; clear hu0_ hu1_)); refine ⟨_, rfl, ?_⟩; have n0_ := Aside0.mk (Kd.R_below (by (with_reducible repeat (first | apply Kd.R_alloc | apply Kd.R_drewN | apply Kd.R_drew)); exact HO_7.out) hb); have n1_ := Aside0.mk (below_step (by repeat (first | (with_reducible first | exact HB.out | apply below_alloc | apply pw_below_drewN | apply below_drew1) | exact HB.out)) hb); clear HO_7; clear HB; have HO_7 := n0_; have HB := n1_; clear n0_ n1_; (try clear hb); (try clear hb2); (try clear hk); (try clear hi)))
        go_ret2
        exact ⟨_, by first | rfl | (simp [errW_none, errW_some] <;> rfl) | (simp [*, errW_none, errW_some] <;> rfl), Kd.R_lower (ok := fun _ => True) (base := w5.heap.size) (by first | exact Kd.R_nil _ _ _ _ _ | exact Kd.N_nil _ _ _ _ _ | exact Kd.V_nil _ _ _ _ _ | exact Kd.Q_nil _ _ _ _ _ | exact Kd.S_nil _ _ _ _ _) HBw.out.size, below_step HBw.out (by repeat (first | (with_reducible first | exact HB.out | apply below_alloc | apply pw_below_drewN | apply below_drew1) | exact HB.out))⟩
       ·replace c14 := Bool.eq_false_iff.mpr c14
        subst c14
        have H1 : (if x7_1.length < 17592186044416 then (impl_readWords.l0 k1 a0 a1 (x7_1 ++ [t503]) y498 (y498.length : Int) (wrap64 (x18_1 + 1))) else (none)) = some (r1, r2) := by rw [if_neg (show ¬ (false = true) by decide)] at H; exact H
        clear H
        have H := H1
        clear H1
        by_cases c16 : x7_1.length < 17592186044416
        ·rw [if_pos c16] at H
         have LMc16 := Aside0.mk c16
         clear c16
         obtain ⟨y505, hy505⟩ : ∃ y_ : List Int, y_ = (x7_1 ++ [t503]) := ⟨_, rfl⟩
         replace H : (impl_readWords.l0 k1 a0 a1 y505 y498 (y498.length : Int) (wrap64 (x18_1 + 1))) = some (r1, r2) := by first | (rw [hy505]; with_reducible exact H) | (have H2_ := (Option.bind_some _ _).symm.trans H; rw [hy505]; with_reducible exact H2_) | (have H2_ := (Option.bind_some _ _).symm.trans H; with_reducible exact H2_) | with_reducible exact H | (rw [hy505]; exact H) | exact H
         have Ny505 := Aside0.mk hy505
         clear hy505
         have H' := Aside0.mk H
         clear H
         have p502 : 0 ≤ (x18_1 : Int) := of_decide_eq_true (by first | (with_reducible assumption) | assumption)
         have q502 : x18_1 < (y498.length : Int) := of_decide_eq_true (by first | (with_reducible assumption) | assumption)
         obtain ⟨ad502, e502, hx502_0⟩ := Kd.at_string HR501.out x18_1 p502 q502
         cases e502
         replace hx502_0 := (HB.out.cell (World.block_lt_of_cell? w5 _ hx502_0)).trans hx502_0
         replace p502 := eq_true p502
         replace q502 := eq_true q502
         go_wp2_with (first | ((with_reducible refine gate_callee (f := 70) rfl ?_); refine goesL_ (some 24) rfl rfl Tryd.func70 (by kernel_rfl) rfl #[.string (rdOf ByteArray.empty y498 x18_1), .int .i64 10, .int .i64 64] rfl (by (try simp only [List.map_toArray, List.map_cons, List.map_nil]); first | done | rfl | (simp only [List.length_drop, List.length_take]; rfl)) ?_; (with_reducible refine (strconv_ParseInt_70.calls (rdOf ByteArray.empty y498 x18_1) 10 64 t503 false _ ?sideG A13.out).mono ?_); (case sideG => exact Glob.below HG.out (by repeat (first | (with_reducible first | exact HB.out | apply below_alloc | apply pw_below_drewN | apply below_drew1) | exact HB.out))); rintro e w17 ⟨u_, rfl, hu0_, hu1_, hb⟩; (first | (obtain rfl := hu0_ rfl; clear hu0_ hu1_) | (obtain ⟨T_, N_, rfl⟩ := hu1_ rfl; clear hu0_ hu1_) | (have HU0 := Aside0.mk hu0_; have HU1 := Aside0.mk hu1_; clear hu0_ hu1_)); refine ⟨_, rfl, ?_⟩; have n0_ := Aside0.mk (Kd.R_below (by (with_reducible repeat (first | apply Kd.R_alloc | apply Kd.R_drewN | apply Kd.R_drew)); exact HO_7.out) hb); have n1_ := Aside0.mk (below_step (by repeat (first | (with_reducible first | exact HB.out | apply below_alloc | apply pw_below_drewN | apply below_drew1) | exact HB.out)) hb); clear HO_7; clear HB; have HO_7 := n0_; have HB := n1_; clear n0_ n1_; (try clear hb); (try clear hb2); (try clear hk); (try clear hi)) | ((with_reducible refine gate_builtin (b := .append) (xs := #[.tmp 29, .tmp 31]) rfl ?_); at_builtin; refine Kd.R_append (Kd.int .i64) (w0 := w5) w5.heap.size rfl (.tmp 29) (.tmp 31) 65 2 (.int .i64 0) 8 rfl Tryd.underlying65 info2 rfl (by decide) (by omega) u7 x7_1 t503 [.int .i64 t503] (fun _ => True) (fun _ => False) rfl rfl ?aP (fun _ hk => hk.elim) ?aF ?aO ?aB ?aS ?aL ?_; (case aP => exact rfl); (case aB => exact (by repeat (first | (with_reducible first | exact HB.out | apply below_alloc | apply pw_below_drewN | apply below_drew1) | exact HB.out))); (case aF => exact (fun _ _ => trivial)); (case aO => exact (by (with_reducible repeat (first | apply Kd.R_alloc | apply Kd.R_drewN | apply Kd.R_drew)); exact HO_7.out)); (case aS => exact (below_size (by repeat (first | (with_reducible first | exact HB.out | apply below_alloc | apply pw_below_drewN | apply below_drew1) | exact HB.out)))); (case aL => have := LMc16.out; omega); intro v506 w18 ho hb hg hat; rw [← Ny505.out] at ho; have n0_ := Aside0.mk (hb); have n1_ := Aside0.mk (ho); clear HB; clear HO_7; have HB := n0_; have HO507 := n1_; clear n0_ n1_; clear ho hb hg hat))
         go_roundg k1
         case measure => have := HK1.out; omega
         case rel => exact ⟨(y505), (wrap64 (x18_1 + 1)), (by first | rfl | (simp; done) | (simp [*]; done)), H', ⟨by have := HK1.out; omega⟩, ⟨by (with_reducible repeat (first | apply Kd.R_alloc | apply Kd.R_drewN | apply Kd.R_drew)); exact HO507.out⟩, ⟨by repeat (first | (with_reducible first | exact HB.out | apply below_alloc | apply pw_below_drewN | apply below_drew1) | exact HB.out)⟩⟩
        ·rw [if_neg c16] at H
         exact absurd H (by simp)
      ·rw [if_neg c12] at H
       exact absurd H (by simp)
     ·rw [if_neg c11] at H
      exact absurd H (by simp)
    ·rw [if_neg c10] at H
     have c10b0 : decide (x18_1 < (y498.length : Int)) = false := decide_eq_false c10
     clear c10
     replace H := Option.bind_eq_some_iff.mp H
     obtain ⟨t508, A190, H⟩ := H
     replace H : (some (x7_1, (t508.toList == a0.toList))) = some (r1, r2) := H
     have A19 := Aside0.mk A190
     clear A190
     simp only [Option.some.injEq, Prod.mk.injEq] at H
     obtain ⟨rfl, rfl⟩ := H
     obtain ⟨Ao20, co20, eo20⟩ := Kd.R_slice HO_7.out
     subst eo20
     go_wp2_with (first | ((with_reducible refine gate_callee (f := 41) rfl ?_); refine goesL_ (some 37) rfl rfl Tryd.func41 (by kernel_rfl) rfl #[.string a1, .slice Ao20 x7_1.length co20] rfl (by (try simp only [List.map_toArray, List.map_cons, List.map_nil]); first | done | rfl | (simp only [List.length_drop, List.length_take]; rfl)) ?_; (with_reducible refine (impl_wordsG.calls k1 a1 _ _ x7_1 t508 _ ?side1 ?side2 ?sideG A19.out).mono ?_); (case sideG => exact Glob.below HG.out (by repeat (first | (with_reducible first | exact HB.out | apply below_alloc | apply pw_below_drewN | apply below_drew1) | exact HB.out))); (case side1 => repeat (first | exact (Kd.R_reads' HO_7.out).2.2 | (with_reducible refine Kd.C_alloc ?_ _) | (with_reducible refine Kd.C_drewN ?_ _) | (with_reducible refine Kd.C_drew ?_))); (case side2 => exact (Kd.R_reads' HO_7.out).2.1); rintro e w21 ⟨rfl, hb⟩; refine ⟨_, rfl, ?_⟩; have n0_ := Aside0.mk (Kd.R_below (by (with_reducible repeat (first | apply Kd.R_alloc | apply Kd.R_drewN | apply Kd.R_drew)); exact HO_7.out) hb); have n1_ := Aside0.mk (below_step (by repeat (first | (with_reducible first | exact HB.out | apply below_alloc | apply pw_below_drewN | apply below_drew1) | exact HB.out)) hb); clear HO_7; clear HB; have HO_7 := n0_; have HB := n1_; clear n0_ n1_; (try clear hb); (try clear hb2); (try clear hk); (try clear hi)))
     go_ret2
     exact ⟨_, by first | rfl | (simp [errW_none, errW_some] <;> rfl) | (simp [*, errW_none, errW_some] <;> rfl), Kd.R_lower (ok := fun _ => True) (base := w5.heap.size) (by (with_reducible repeat (first | apply Kd.R_alloc | apply Kd.R_drewN | apply Kd.R_drew)); exact HO_7.out) HBw.out.size, below_step HBw.out (by repeat (first | (with_reducible first | exact HB.out | apply below_alloc | apply pw_below_drewN | apply below_drew1) | exact HB.out))⟩
 ·rw [if_neg c4] at H
  exact absurd H (by simp)
def primeB (p : Int) : Bool := p == 2 || p == 3 || p == 5 || p == 7 || p == 11 || p == 13 || p == 17 || p == 19 || p == 23 || p == 29 || p == 31
theorem impl_within_eq (n lo hi : Int) : impl_within.f n lo hi = some (decide (lo ≤ n ∧ n ≤ hi)) := by
 unfold impl_within.f
 by_cases h : n ≥ lo
 ·rw [if_pos h]; congr 1; by_cases h2 : n ≤ hi <;> simp [h, h2]
 ·rw [if_neg h]; congr 1; simp; omega
theorem spec_l00In_eq (n lo hi : Int) : spec_l00In.f n lo hi = some (decide (lo ≤ n ∧ n ≤ hi)) := by
 unfold spec_l00In.f
 by_cases h : n ≥ lo
 ·rw [if_pos h]; congr 1; by_cases h2 : n ≤ hi <;> simp [h, h2]
 ·rw [if_neg h]; congr 1; simp; omega
theorem primeB_range {p : Int} (h : primeB p = true) : 2 ≤ p ∧ p ≤ 31 := by
 simp only [primeB, Bool.or_eq_true, beq_iff_eq] at h
 omega
theorem fin30 {P : Int → Prop} (h : ∀ i : Fin 30, P ((i.val : Int) + 2)) (p : Int) (h1 : 2 ≤ p) (h2 : p ≤ 31) : P p := by
 have := h ⟨(p - 2).toNat, by omega⟩
 rwa [show ((((p - 2).toNat : Nat) : Int) + 2) = p by omega] at this
theorem spec_IsPrime_ev (p : Int) : Ev (fun k => spec_IsPrime.f k p) (primeB p) := by
 by_cases h : 2 ≤ p ∧ p ≤ 31
 ·refine Ev.of (spec_IsPrime.mono p) (k := 40) ?_
  exact fin30 (P := fun p => spec_IsPrime.f 40 p = some (primeB p)) (by decide +kernel) p h.1 h.2
 ·refine Ev.congr (f := fun _ => some false) (fun k => ?_) ?_
  ·unfold spec_IsPrime.f
   rw [spec_l00In_eq, decide_eq_false h]
   rfl
  ·rw [show primeB p = false from by
    cases e : primeB p with
    | false => rfl
    | true => exact absurd (primeB_range e) h]
   exact Ev.now _
theorem impl_IsPrime_ev (p : Int) : Ev (fun k => impl_IsPrime.f k p) (primeB p) := by
 by_cases h : 2 ≤ p ∧ p ≤ 31
 ·refine Ev.of (impl_IsPrime.mono p) (k := 40) ?_
  exact fin30 (P := fun p => impl_IsPrime.f 40 p = some (primeB p)) (by decide +kernel) p h.1 h.2
 ·refine Ev.of (impl_IsPrime.mono p) (k := 2) ?_
  have hp : primeB p = false := by
   cases e : primeB p with
   | false => rfl
   | true => exact absurd (primeB_range e) h
  rw [hp]
  have hw : wrap64 (2 * 2) = 4 := by decide +kernel
  unfold impl_IsPrime.f
  simp only [impl_IsPrime.l0, hw]
  by_cases h4 : (4 : Int) ≤ p
  ·rw [if_pos h4]
   have h31 : ¬ p ≤ 31 := by omega
   simp only [impl_IsPrime.j1, decide_eq_false h31]
   rw [if_neg (by decide), impl_within_eq, decide_eq_false h]
   rfl
  ·rw [if_neg h4]
   simp only [impl_IsPrime.j1]
   rw [if_neg (by decide), impl_within_eq, decide_eq_false h]
   rfl
theorem wr {x : Int} (h1 : -9223372036854775808 ≤ x) (h2 : x ≤ 9223372036854775807) : wrap64 x = x := by
 unfold wrap64; omega
theorem rd_nat (xs : List Int) (i : Nat) (h : i < xs.length) : rd xs (i : Int) = xs[i] := by
 simp [rd, h]
def elemsB (p : Int) (l : List Int) : Bool := l.all fun a => decide (0 ≤ a ∧ a ≤ p - 1)
theorem idxI_ev (p : Int → Option Bool) (q : Int → Bool) (xs : List Int) (hlen : xs.length ≤ 4611686018427387904) (hp : ∀ x, p x = some (q x)) :
  ∀ d i : Nat, i + d = xs.length → ∃ r : Int, Ev (fun k => idxI.l0 k p xs (i : Int)) r ∧ decide (0 ≤ r) = (xs.drop i).any q := by
 intro d
 induction d with
 | zero =>
  intro i hi
  refine ⟨-1, Ev.step (f := fun _ => some (-1)) (fun k => ?_) (Ev.now _), ?_⟩
  ·simp only [idxI.l0]
   rw [if_neg (by omega)]
  ·rw [List.drop_eq_nil_of_le (by omega)]; rfl
 | succ d ih =>
  intro i hi
  have hlt : i < xs.length := by omega
  obtain ⟨r, hr, hd⟩ := ih (i + 1) (by omega)
  rw [List.drop_eq_getElem_cons hlt, List.any_cons]
  cases hq : q xs[i] with
  | true =>
   refine ⟨i, Ev.step (f := fun _ => some (i : Int)) (fun k => ?_) (Ev.now _), ?_⟩
   ·simp only [idxI.l0]
    rw [if_pos (by omega), if_pos (by omega), hp, rd_nat xs i hlt, hq]
    rfl
   ·rw [Bool.true_or]; exact decide_eq_true (by omega)
  | false =>
   refine ⟨r, Ev.step (f := fun k => idxI.l0 k p xs ((i + 1 : Nat) : Int)) (fun k => ?_) hr, ?_⟩
   ·simp only [idxI.l0]
    rw [if_pos (by omega), if_pos (by omega), hp, rd_nat xs i hlt, hq, wr (by omega) (by omega)]
    rfl
   ·rw [Bool.false_or]; exact hd
theorem hasI_ev (p : Int → Option Bool) (q : Int → Bool) (xs : List Int) (hlen : xs.length ≤ 4611686018427387904) (hp : ∀ x, p x = some (q x)) :
  Ev (fun k => hasI.f k p xs) (xs.any q) := by
 obtain ⟨r, hr, hd⟩ := idxI_ev p q xs hlen hp xs.length 0 (by omega)
 rw [List.drop_zero] at hd
 rw [← hd]
 exact Ev.bind hr (Ev.now _)
theorem not_any_elems (p : Int) (l : List Int) : (!(l.any fun a => !decide (0 ≤ a ∧ a ≤ p - 1))) = elemsB p l := by
 unfold elemsB
 induction l with
 | nil => rfl
 | cons a l ih => rw [List.any_cons, List.all_cons, ← ih, Bool.not_or, Bool.not_not]
theorem impl_areElements_ev (p : Int) (l : List Int) (hlen : l.length ≤ 4611686018427387904) : Ev (fun k => impl_areElements.f k p l) (primeB p && elemsB p l) := by
 unfold impl_areElements.f
 refine Ev.bind (impl_IsPrime_ev p) ?_
 cases hp : primeB p with
 | false => exact Ev.now _
 | true =>
  have hr := primeB_range hp
  rw [Bool.true_and, ← not_any_elems]
  simp only [if_true]
  refine Ev.bind (hasI_ev (areElements_p p) (fun a => !decide (0 ≤ a ∧ a ≤ p - 1)) l hlen (fun x => ?_)) (Ev.now _)
  unfold areElements_p
  rw [impl_within_eq, wr (by omega) (by omega)]
  rfl
mutual
def impl_ReadMatrix.j0 : Nat → ByteArray → List ByteArray → List Int → Bool → Option (Int × Int × (List (List Int)) × Int)
 | 0, _, _, _, _ => none
 | k + 1, x0, x4, x5, x31 => if x31 = true then (some (0, 0, ([] : List (List Int)), 5)) else (if 0 < (x5.length : Int) then (if 1 < (x5.length : Int) then (if 1 ≤ (mx 1 (wrap64 ((x4.length : Int) - 1))) then (if (mx 1 (wrap64 ((x4.length : Int) - 1))) ≤ (x4.length : Int) then ((some ((x4.take ((mx 1 (wrap64 ((x4.length : Int) - 1))) : Int).toNat).drop 1 : List ByteArray)).bind fun y521 => (impl_ReadMatrix.l0 k x0 y521 (y521.length : Int) 0 (rd x5 0) (rd x5 1) ([] : List (List Int)))) else (none)) else (none)) else (none)) else (none))
def impl_ReadMatrix.l0 : Nat → ByteArray → List ByteArray → Int → Int → Int → Int → List (List Int) → Option (Int × Int × (List (List Int)) × Int)
 | 0, _, _, _, _, _, _, _ => none
 | k + 1, x0, x45, x46, x47, x521000, x521001, x521002 => if x47 < x46 then (if 0 ≤ x47 then (if x47 < (x45.length : Int) then ((impl_readWords.f k (rdOf ByteArray.empty x45 x47) (⟨#[114, 111, 119]⟩ : ByteArray)).bind fun bt526 => (if bt526.2 = true then (if x521002.length < 5864062014805 then (impl_ReadMatrix.l0 k x0 x45 x46 (wrap64 (x47 + 1)) x521000 x521001 (x521002 ++ [bt526.1])) else (none)) else (some (0, 0, ([] : List (List Int)), 5)))) else (none)) else (none)) else ((impl_MatrixText.f k x521000 x521001 x521002).bind fun t533 => (if t533.toList = x0.toList then (some (x521000, x521001, x521002, 0)) else (some (0, 0, ([] : List (List Int)), 5))))
end
def impl_ReadMatrix.f (k : Nat) (a0 : ByteArray) : Option (Int × Int × (List (List Int)) × Int) := if (a0.size : Int) > 4000 then (some (0, 0, ([] : List (List Int)), 2)) else ((strings_Split.f a0 (⟨#[10]⟩ : ByteArray)).bind fun t510 => (if 0 < (t510.length : Int) then ((impl_readWords.f k (rdOf ByteArray.empty t510 0) (⟨#[109, 97, 116, 114, 105, 120]⟩ : ByteArray)).bind fun bt514 => (if bt514.2 = true then (impl_ReadMatrix.j0 k a0 t510 bt514.1 ((bt514.1.length : Int) != 2)) else (impl_ReadMatrix.j0 k a0 t510 bt514.1 true))) else (none)))
def impl_ReadMatrix.T7 : Bool × List (List Nat × List Nat) := (true, [([], []), ([0], [0]), ([1], [1]), ([], []), ([3], [3]), ([4], [4]), ([2, 5], [2, 5]), ([], []), ([7, 6, 0, 1, 2, 3, 4, 5, 6, 7], [6, 7])])
def impl_ReadMatrix.B7 : List Nat := [0, 1, 3, 0, 8, 24, 63, 0, 255]
theorem impl_ReadMatrix.tab7 : rtab .any (opsOf Tryd.f29 7) = impl_ReadMatrix.T7 := by kernel_rfl
theorem impl_ReadMatrix.bits7 : waitsOk impl_ReadMatrix.T7.2 impl_ReadMatrix.B7 = true := by kernel_rfl
set_option maxHeartbeats 8000000 in
set_option maxRecDepth 100000 in
theorem impl_ReadMatrix.calls (k : Nat) (a0 : ByteArray) (r1 : Int) (r2 : Int) (r3 : List (List Int)) (r4 : Int) (w : World) (hG : Glob w) (h : impl_ReadMatrix.f k a0 = some (r1, r2, r3, r4)) :
  Calls Tryd.prog 29 #[.string a0] w fun e w' => ∃ v2_ : Value, e = .returned (.tuple #[.agg #[.int .i64 r1, .int .i64 r2, v2_], .int .i64 r4]) ∧ Kd.S (Kd.slice 2 (Kd.int .i64)) 65 w' w.heap.size (fun _ => True) v2_ r3 ∧ Below w.heap.size w w' := by
 have HG := Aside0.mk hG
 clear hG
 have hu27 := Tryd.underlying27
 have HB := Aside0.mk (Below.refl w.heap.size w)
 have H : (if (a0.size : Int) > 4000 then (some (0, 0, ([] : List (List Int)), 2)) else ((strings_Split.f a0 (⟨#[10]⟩ : ByteArray)).bind fun t510 => (if 0 < (t510.length : Int) then ((impl_readWords.f k (rdOf ByteArray.empty t510 0) (⟨#[109, 97, 116, 114, 105, 120]⟩ : ByteArray)).bind fun bt514 => (if bt514.2 = true then (impl_ReadMatrix.j0 k a0 t510 bt514.1 ((bt514.1.length : Int) != 2)) else (impl_ReadMatrix.j0 k a0 t510 bt514.1 true))) else (none)))) = some (r1, r2, r3, r4) := h
 clear h
 by_cases c2 : (a0.size : Int) > 4000
 ·rw [if_pos c2] at H
  have c2b0 : decide (4000 < (a0.size : Int)) = true := decide_eq_true c2
  have c2b1 : decide (4000 < a0.size) = true := decide_eq_true (by omega)
  clear c2
  simp only [Option.some.injEq, Prod.mk.injEq] at H
  obtain ⟨rfl, rfl, rfl, rfl⟩ := H
  go_enter Tryd.func29, Tryd.ntmps29
  go_wp2_with (first | ((with_reducible refine gate_dst (N := 2) rfl ?_); (try (refine gate_guard (by rfl) ?_; dsimp only)); refine box_event ?hg (N := 2) ?hd (cs := #[.int .i64 0, .int .i64 0, .slice none 0 0]) (t := 27) ?hr ?_; (case hd => rfl); (case hg => rfl); (case hr => first | (go_simp; done) | (go_simp; rfl)); intro gb509 hg w3 hbox hb; have n0_ := Aside0.mk (below_step (by repeat (first | (with_reducible first | exact HB.out | apply below_alloc | apply pw_below_drewN | apply below_drew1) | exact HB.out)) hb); have n1_ := Aside0.mk (hbox); have n2_ := Aside0.mk ((by rw [hg]; exact (below_size (by repeat (first | (with_reducible first | exact HB.out | apply below_alloc | apply pw_below_drewN | apply below_drew1) | exact HB.out))) : w.heap.size ≤ gb509)); have n3_ := Aside0.mk ((by rw [hg]; exact (below_size (by repeat (first | (with_reducible first | exact HB.out | apply below_alloc | apply pw_below_drewN | apply below_drew1) | exact HB.out))) : w.heap.size ≤ gb509)); clear HB; have HB := n0_; have BK509 := n1_; have GW509 := n2_; have GE509 := n3_; clear n0_ n1_ n2_ n3_; clear hb hbox hg; have hcz4_0 : w3.cell? ⟨gb509, 0, none⟩ = some (.int .i64 0) := (blk_cell BK509.out 0).trans rfl; have hcz4_1 : w3.cell? ⟨gb509, 1, none⟩ = some (.int .i64 0) := (blk_cell BK509.out 1).trans rfl; have hcz4_2 : w3.cell? ⟨gb509, 2, none⟩ = some (.slice none 0 0) := (blk_cell BK509.out 2).trans rfl; have hfz4_0 := blk_frozen BK509.out 0; have hfz4_1 := blk_frozen BK509.out 1; have hfz4_2 := blk_frozen BK509.out 2))
  refine bodyPost_ret (results_ct rfl _ _ gb509 27 #[.int .i64 0, .int .i64 0, .slice none 0 0] (0, 0) _ rfl (by (with_reducible repeat (first | refine blk_drewN ?_ _ | refine blk_drew ?_ | refine blk_alloc ?_ _)); refine blk_put (cs := #[.int .i64 0, .int .i64 0, .slice none 0 0]) ?_ 2 _ rfl; (with_reducible repeat (first | refine blk_drewN ?_ _ | refine blk_drew ?_ | refine blk_alloc ?_ _)); refine blk_put (cs := #[.int .i64 0, .int .i64 0, .slice none 0 0]) ?_ 1 _ rfl; (with_reducible repeat (first | refine blk_drewN ?_ _ | refine blk_drew ?_ | refine blk_alloc ?_ _)); refine blk_put (cs := #[.int .i64 0, .int .i64 0, .slice none 0 0]) ?_ 0 _ rfl; (with_reducible repeat (first | refine blk_drewN ?_ _ | refine blk_drew ?_ | refine blk_alloc ?_ _)); exact BK509.out) Tryd.underlying27 rfl (by kernel_rfl)) rfl ?_
  exact ⟨_, by first | rfl | (simp [errW_none, errW_some] <;> rfl) | (simp [*, errW_none, errW_some] <;> rfl), by first | exact Kd.S_nil _ _ _ _ _ | exact Kd.N_nil _ _ _ _ _ | exact Kd.V_nil _ _ _ _ _ | exact Kd.Q_nil _ _ _ _ _ | exact Kd.R_nil _ _ _ _ _, by repeat (first | (with_reducible first | exact HB.out | apply below_alloc | apply pw_below_drewN | apply below_drew1 | refine below_set ?_ GE509.out) | exact HB.out)⟩
 ·rw [if_neg c2] at H
  have c2b0 : decide (4000 < (a0.size : Int)) = false := decide_eq_false c2
  have c2b1 : decide (4000 < a0.size) = false := decide_eq_false (by omega)
  clear c2
  replace H := Option.bind_eq_some_iff.mp H
  obtain ⟨t510, A50, H⟩ := H
  replace H : (if 0 < (t510.length : Int) then ((impl_readWords.f k (rdOf ByteArray.empty t510 0) (⟨#[109, 97, 116, 114, 105, 120]⟩ : ByteArray)).bind fun bt514 => (if bt514.2 = true then (impl_ReadMatrix.j0 k a0 t510 bt514.1 ((bt514.1.length : Int) != 2)) else (impl_ReadMatrix.j0 k a0 t510 bt514.1 true))) else (none)) = some (r1, r2, r3, r4) := H
  have A5 := Aside0.mk A50
  clear A50
  by_cases c6 : 0 < (t510.length : Int)
  ·rw [if_pos c6] at H
   have c6b0 : decide (0 < (t510.length : Int)) = true := decide_eq_true c6
   have c6b1 : decide (0 < t510.length) = true := decide_eq_true (by omega)
   clear c6
   replace H := Option.bind_eq_some_iff.mp H
   obtain ⟨⟨t514, t515⟩, A70, H⟩ := H
   replace H : (if t515 = true then (impl_ReadMatrix.j0 k a0 t510 t514 ((t514.length : Int) != 2)) else (impl_ReadMatrix.j0 k a0 t510 t514 true)) = some (r1, r2, r3, r4) := H
   have A7 := Aside0.mk A70
   clear A70
   have HC8 := Aside0.mk H
   clear H
   go_enter Tryd.func29, Tryd.ntmps29
   go_upto_region 5 with (first | ((with_reducible refine gate_dst (N := 2) rfl ?_); (try (refine gate_guard (by rfl) ?_; dsimp only)); refine box_event ?hg (N := 2) ?hd (cs := #[.int .i64 0, .int .i64 0, .slice none 0 0]) (t := 27) ?hr ?_; (case hd => rfl); (case hg => rfl); (case hr => first | (go_simp; done) | (go_simp; rfl)); intro gb509 hg w9 hbox hb; have n0_ := Aside0.mk (below_step (by repeat (first | (with_reducible first | exact HB.out | apply below_alloc | apply pw_below_drewN | apply below_drew1) | exact HB.out)) hb); have n1_ := Aside0.mk (hbox); have n2_ := Aside0.mk ((by rw [hg]; exact (below_size (by repeat (first | (with_reducible first | exact HB.out | apply below_alloc | apply pw_below_drewN | apply below_drew1) | exact HB.out))) : w.heap.size ≤ gb509)); have n3_ := Aside0.mk ((by rw [hg]; exact (below_size (by repeat (first | (with_reducible first | exact HB.out | apply below_alloc | apply pw_below_drewN | apply below_drew1) | exact HB.out))) : w.heap.size ≤ gb509)); clear HB; have HB := n0_; have BK509 := n1_; have GW509 := n2_; have GE509 := n3_; clear n0_ n1_ n2_ n3_; clear hb hbox hg) | ((with_reducible refine gate_callee (f := 63) rfl ?_); refine goesL_ (some 17) rfl rfl Tryd.func63 (by kernel_rfl) rfl #[.string a0, .string (⟨#[10]⟩ : ByteArray)] rfl (by (try simp only [List.map_toArray, List.map_cons, List.map_nil]); first | done | rfl | (simp only [List.length_drop, List.length_take]; rfl)) ?_; (with_reducible refine (strings_Split.calls a0 (⟨#[10]⟩ : ByteArray) t510 _ ?sideG A5.out).mono ?_); (case sideG => exact Glob.below HG.out (by repeat (first | (with_reducible first | exact HB.out | apply below_alloc | apply pw_below_drewN | apply below_drew1 | refine below_set ?_ GE509.out) | exact HB.out))); rintro e w10 ⟨v511, rfl, ho0, hb⟩; refine ⟨_, rfl, ?_⟩; have n0_ := Aside0.mk (Kd.R_lower ho0 (below_size (by repeat (first | (with_reducible first | exact HB.out | apply below_alloc | apply pw_below_drewN | apply below_drew1 | refine below_set ?_ GE509.out) | exact HB.out)))); have n1_ := Aside0.mk (blk_below (g := gb509) (o := .cells #[.int .i64 0, .int .i64 0, .slice none 0 0] 27 (0, 0)) (by (with_reducible repeat (first | refine blk_drewN ?_ _ | refine blk_drew ?_ | refine blk_alloc ?_ _)); exact BK509.out) hb); have n2_ := Aside0.mk (below_step (by repeat (first | (with_reducible first | exact HB.out | apply below_alloc | apply pw_below_drewN | apply below_drew1 | refine below_set ?_ GE509.out) | exact HB.out)) hb); clear BK509; clear HB; have HO512 := n0_; have BK509 := n1_; have HB := n2_; clear n0_ n1_ n2_; (try clear hb); (try clear hb2); (try clear hk); (try clear hi); (try clear ho0); obtain ⟨Ao11, co11, eo11⟩ := Kd.R_slice HO512.out; subst eo11; have p513 : 0 ≤ (0 : Int) := (by omega); have q513 : 0 < (t510.length : Int) := of_decide_eq_true (by first | (with_reducible assumption) | assumption); obtain ⟨ad513, e513, hx513_0⟩ := Kd.at_string (Kd.R_reads' HO512.out).2.2 0 p513 q513; cases e513; have qi513 : (0 < t510.length) = True := eq_true (by omega); (try rw [show ((0 : Int)).toNat = 0 from rfl] at hx513_0); (try rw [Addr.add_zero'] at hx513_0); replace p513 := eq_true p513; replace q513 := eq_true q513) | ((with_reducible refine gate_callee (f := 64) rfl ?_); refine goesL_ (some 22) rfl rfl Tryd.func64 (by kernel_rfl) rfl #[.string (rdOf ByteArray.empty t510 0), .string (⟨#[109, 97, 116, 114, 105, 120]⟩ : ByteArray)] rfl (by (try simp only [List.map_toArray, List.map_cons, List.map_nil]); first | done | rfl | (simp only [List.length_drop, List.length_take]; rfl)) ?_; (with_reducible refine (impl_readWords.calls k (rdOf ByteArray.empty t510 0) (⟨#[109, 97, 116, 114, 105, 120]⟩ : ByteArray) t514 t515 _ ?sideG A7.out).mono ?_); (case sideG => exact Glob.below HG.out (by repeat (first | (with_reducible first | exact HB.out | apply below_alloc | apply pw_below_drewN | apply below_drew1 | refine below_set ?_ GE509.out) | exact HB.out))); rintro e w12 ⟨v516, rfl, ho0, hb⟩; refine ⟨_, rfl, ?_⟩; have n0_ := Aside0.mk (Kd.R_below (by (with_reducible repeat (first | apply Kd.R_alloc | apply Kd.R_drewN | apply Kd.R_drew)); exact HO512.out) hb); have n1_ := Aside0.mk (Kd.R_lower ho0 (below_size (by repeat (first | (with_reducible first | exact HB.out | apply below_alloc | apply pw_below_drewN | apply below_drew1 | refine below_set ?_ GE509.out) | exact HB.out)))); have n2_ := Aside0.mk (blk_below (g := gb509) (o := .cells #[.int .i64 0, .int .i64 0, .slice none 0 0] 27 (0, 0)) (by (with_reducible repeat (first | refine blk_drewN ?_ _ | refine blk_drew ?_ | refine blk_alloc ?_ _)); exact BK509.out) hb); have n3_ := Aside0.mk (below_step (by repeat (first | (with_reducible first | exact HB.out | apply below_alloc | apply pw_below_drewN | apply below_drew1 | refine below_set ?_ GE509.out) | exact HB.out)) hb); clear HO512; clear BK509; clear HB; have HO512 := n0_; have HO517 := n1_; have BK509 := n2_; have HB := n3_; clear n0_ n1_ n2_ n3_; (try clear hb); (try clear hb2); (try clear hk); (try clear hi); (try clear ho0)))
   (try simp only [Act.put, List.setIfInBounds_toArray, List.set_cons_zero, List.set_cons_succ])
   go_cut [31] (fun v31 wc => ∃ (kq : Nat) (x31_7 : Bool), v31 = .bool x31_7 ∧ Aside0 (impl_ReadMatrix.j0 kq a0 t510 t514 x31_7 = some (r1, r2, r3, r4)) ∧ Aside0 (kq ≤ k) ∧ Aside0 (Kd.R Kd.string 9 wc w.heap.size (fun _ => True) (.slice (some ad513) t510.length co11) t510) ∧ Aside0 (Kd.R (Kd.int .i64) 2 wc w.heap.size (fun _ => True) v516 t514) ∧ Aside0 (wc.heap[gb509]? = some (.cells #[.int .i64 0, .int .i64 0, (.slice none 0 0)] 27 (0, 0))) ∧ Aside0 (Below w.heap.size w wc))
   case first =>
    have H := HC8.out
    clear HC8
    by_cases c13 : t515 = true
    ·subst c13
     have H1 : (impl_ReadMatrix.j0 k a0 t510 t514 ((t514.length : Int) != 2)) = some (r1, r2, r3, r4) := by rw [if_pos rfl] at H; exact H
     clear H
     have H := H1
     clear H1
     have H' := Aside0.mk H
     clear H
     obtain ⟨Ao14, co14, eo14⟩ := Kd.R_slice HO517.out
     subst eo14
     go_wp2
     go_meet
     case rel => exact ⟨_, (((t514.length : Int) != 2)), (by first | rfl | (simp; done) | (simp [*]; done)), H', ⟨by first | omega | exact Nat.le_refl _⟩, ⟨by (with_reducible repeat (first | apply Kd.R_alloc | apply Kd.R_drewN | apply Kd.R_drew)); exact HO512.out⟩, ⟨by (with_reducible repeat (first | apply Kd.R_alloc | apply Kd.R_drewN | apply Kd.R_drew)); exact HO517.out⟩, ⟨by (with_reducible repeat (first | refine blk_drewN ?_ _ | refine blk_drew ?_ | refine blk_alloc ?_ _)); exact BK509.out⟩, ⟨by repeat (first | (with_reducible first | exact HB.out | apply below_alloc | apply pw_below_drewN | apply below_drew1 | refine below_set ?_ GE509.out) | exact HB.out)⟩⟩
    ·replace c13 := Bool.eq_false_iff.mpr c13
     subst c13
     have H1 : (impl_ReadMatrix.j0 k a0 t510 t514 true) = some (r1, r2, r3, r4) := by rw [if_neg (show ¬ (false = true) by decide)] at H; exact H
     clear H
     have H := H1
     clear H1
     have H' := Aside0.mk H
     clear H
     go_wp2
     go_meet
     case rel => exact ⟨_, (true), (by first | rfl | (simp; done) | (simp [*]; done)), H', ⟨by first | omega | exact Nat.le_refl _⟩, ⟨by (with_reducible repeat (first | apply Kd.R_alloc | apply Kd.R_drewN | apply Kd.R_drew)); exact HO512.out⟩, ⟨by (with_reducible repeat (first | apply Kd.R_alloc | apply Kd.R_drewN | apply Kd.R_drew)); exact HO517.out⟩, ⟨by (with_reducible repeat (first | refine blk_drewN ?_ _ | refine blk_drew ?_ | refine blk_alloc ?_ _)); exact BK509.out⟩, ⟨by repeat (first | (with_reducible first | exact HB.out | apply below_alloc | apply pw_below_drewN | apply below_drew1 | refine below_set ?_ GE509.out) | exact HB.out)⟩⟩
   case rest =>
    clear HC8
    try clear c1
    try clear c2
    try clear c2b0
    try clear c2b1
    try clear p2
    try clear p5
    try clear q5
    try clear hx5
    try clear qi5
    try clear c6
    try clear c6b0
    try clear c6b1
    try clear c13
    try clear hcz4_0
    try clear hcz4_1
    try clear hcz4_2
    try clear hfz4_0
    try clear hfz4_1
    try clear hfz4_2
    try clear hx513_0
    try clear p513
    try clear q513
    obtain ⟨kq, x31_7, rfl, HA, HJ7, HO_4, HO_5, BK509, HB⟩ := hcut
    cases kq with
    | zero => exact absurd HA.out (by simp [impl_ReadMatrix.j0])
    | succ kj7 =>
     have H := HA.out
     clear HA
     simp only [impl_ReadMatrix.j0] at H
     by_cases c15 : x31_7 = true
     ·subst c15
      have H1 : (some (0, 0, ([] : List (List Int)), 5)) = some (r1, r2, r3, r4) := by rw [if_pos rfl] at H; exact H
      clear H
      have H := H1
      clear H1
      simp only [Option.some.injEq, Prod.mk.injEq] at H
      obtain ⟨rfl, rfl, rfl, rfl⟩ := H
      have hcz16_0 : wc.cell? ⟨gb509, 0, none⟩ = some (.int .i64 0) := (blk_cell BK509.out 0).trans rfl
      have hcz16_1 : wc.cell? ⟨gb509, 1, none⟩ = some (.int .i64 0) := (blk_cell BK509.out 1).trans rfl
      have hcz16_2 : wc.cell? ⟨gb509, 2, none⟩ = some (.slice none 0 0) := (blk_cell BK509.out 2).trans rfl
      have hfz16_0 := blk_frozen BK509.out 0
      have hfz16_1 := blk_frozen BK509.out 1
      have hfz16_2 := blk_frozen BK509.out 2
      go_wp2
      refine bodyPost_ret (results_ct rfl _ _ gb509 27 #[.int .i64 0, .int .i64 0, .slice none 0 0] (0, 0) _ rfl (by (with_reducible repeat (first | refine blk_drewN ?_ _ | refine blk_drew ?_ | refine blk_alloc ?_ _)); refine blk_put (cs := #[.int .i64 0, .int .i64 0, .slice none 0 0]) ?_ 2 _ rfl; (with_reducible repeat (first | refine blk_drewN ?_ _ | refine blk_drew ?_ | refine blk_alloc ?_ _)); refine blk_put (cs := #[.int .i64 0, .int .i64 0, .slice none 0 0]) ?_ 1 _ rfl; (with_reducible repeat (first | refine blk_drewN ?_ _ | refine blk_drew ?_ | refine blk_alloc ?_ _)); refine blk_put (cs := #[.int .i64 0, .int .i64 0, .slice none 0 0]) ?_ 0 _ rfl; (with_reducible repeat (first | refine blk_drewN ?_ _ | refine blk_drew ?_ | refine blk_alloc ?_ _)); exact BK509.out) Tryd.underlying27 rfl (by kernel_rfl)) rfl ?_
      exact ⟨_, by first | rfl | (simp [errW_none, errW_some] <;> rfl) | (simp [*, errW_none, errW_some] <;> rfl), by first | exact Kd.S_nil _ _ _ _ _ | exact Kd.N_nil _ _ _ _ _ | exact Kd.V_nil _ _ _ _ _ | exact Kd.Q_nil _ _ _ _ _ | exact Kd.R_nil _ _ _ _ _, by repeat (first | (with_reducible first | exact HB.out | apply below_alloc | apply pw_below_drewN | apply below_drew1 | refine below_set ?_ GE509.out) | exact HB.out)⟩
     ·replace c15 := Bool.eq_false_iff.mpr c15
      subst c15
      have H1 : (if 0 < (t514.length : Int) then (if 1 < (t514.length : Int) then (if 1 ≤ (mx 1 (wrap64 ((t510.length : Int) - 1))) then (if (mx 1 (wrap64 ((t510.length : Int) - 1))) ≤ (t510.length : Int) then ((some ((t510.take ((mx 1 (wrap64 ((t510.length : Int) - 1))) : Int).toNat).drop 1 : List ByteArray)).bind fun y521 => (impl_ReadMatrix.l0 kj7 a0 y521 (y521.length : Int) 0 (rd t514 0) (rd t514 1) ([] : List (List Int)))) else (none)) else (none)) else (none)) else (none)) = some (r1, r2, r3, r4) := by rw [if_neg (show ¬ (false = true) by decide)] at H; exact H
      clear H
      have H := H1
      clear H1
      by_cases c17 : 0 < (t514.length : Int)
      ·rw [if_pos c17] at H
       have c17b0 : decide (0 < (t514.length : Int)) = true := decide_eq_true c17
       have c17b1 : decide (0 < t514.length) = true := decide_eq_true (by omega)
       clear c17
       by_cases c18 : 1 < (t514.length : Int)
       ·rw [if_pos c18] at H
        have c18b0 : decide (1 < (t514.length : Int)) = true := decide_eq_true c18
        have c18b1 : decide (1 < t514.length) = true := decide_eq_true (by omega)
        clear c18
        obtain ⟨ji19, hji19⟩ : ∃ j_ : Int, (mx 1 (wrap64 ((t510.length : Int) - 1))) = j_ := ⟨_, rfl⟩
        replace H : (if 1 ≤ (ji19) then (if (ji19) ≤ (t510.length : Int) then ((some ((t510.take ((ji19) : Int).toNat).drop 1 : List ByteArray)).bind fun y521 => (impl_ReadMatrix.l0 kj7 a0 y521 (y521.length : Int) 0 (rd t514 0) (rd t514 1) ([] : List (List Int)))) else (none)) else (none)) = some (r1, r2, r3, r4) := by first | (rw [hji19] at H; exact H) | (simp only [hji19] at H ⊢; exact H)
        have hji19_ : (if 1 < (wrap64 ((t510.length : Int) - 1)) then (wrap64 ((t510.length : Int) - 1)) else 1) = ji19 := hji19
        by_cases c20 : 1 ≤ (ji19)
        ·rw [if_pos c20] at H
         have c20b0 := eq_true c20
         have c20b1 : decide (1 ≤ (ji19)) = true := decide_eq_true c20
         clear c20
         by_cases c21 : (ji19) ≤ (t510.length : Int)
         ·rw [if_pos c21] at H
          have c21b0 := eq_true c21
          have c21b1 : decide ((ji19) ≤ (t510.length : Int)) = true := decide_eq_true c21
          clear c21
          obtain ⟨y521, hy521⟩ : ∃ y_ : List ByteArray, y_ = ((t510.take ((ji19) : Int).toNat).drop 1) := ⟨_, rfl⟩
          replace H : (impl_ReadMatrix.l0 kj7 a0 y521 (y521.length : Int) 0 (rd t514 0) (rd t514 1) ([] : List (List Int))) = some (r1, r2, r3, r4) := by first | (rw [hy521]; with_reducible exact H) | (have H2_ := (Option.bind_some _ _).symm.trans H; rw [hy521]; with_reducible exact H2_) | (have H2_ := (Option.bind_some _ _).symm.trans H; with_reducible exact H2_) | with_reducible exact H | (rw [hy521]; exact H) | exact H
          have Ny521 := Aside0.mk hy521
          clear hy521
          have H' := Aside0.mk H
          clear H
          try go_wp2
          have n0_ := Aside0.mk (Kd.R_drew HO_4.out)
          have n1_ := Aside0.mk (Kd.R_drew HO_5.out)
          have n2_ := Aside0.mk (blk_drew BK509.out)
          have n3_ := Aside0.mk (below_drew1 HB.out)
          clear HO_4
          clear HO_5
          clear BK509
          clear HB
          have HO_4 := n0_
          have HO_5 := n1_
          have BK509 := n2_
          have HB := n3_
          clear n0_ n1_ n2_ n3_
          obtain ⟨Ao23, co23, eo23⟩ := Kd.R_slice HO_5.out
          (first | subst eo23 | (injection eo23 with f1_ f2_ f3_; have f4_ := f1_.symm; have f5_ := f3_.symm; clear f1_ f2_ f3_; subst f4_; subst f5_))
          have p518 : 0 ≤ (0 : Int) := (by omega)
          have q518 : 0 < (t514.length : Int) := of_decide_eq_true (by first | (with_reducible assumption) | assumption)
          obtain ⟨ad518, e518, hx518_0⟩ := Kd.at_int (Kd.R_reads' HO_5.out).2.2 0 p518 q518
          cases e518
          have qi518 : (0 < t514.length) = True := eq_true (by omega)
          (try rw [show ((0 : Int)).toNat = 0 from rfl] at hx518_0)
          (try rw [Addr.add_zero'] at hx518_0)
          replace p518 := eq_true p518
          replace q518 := eq_true q518
          have p519 : 0 ≤ (1 : Int) := (by omega)
          have q519 : 1 < (t514.length : Int) := of_decide_eq_true (by first | (with_reducible assumption) | assumption)
          obtain ⟨ad519, e519, hx519_0⟩ := Kd.at_int (Kd.R_reads' HO_5.out).2.2 1 p519 q519
          obtain rfl : ad518 = ad519 := (by injection e519)
          (try simp only [show (1 : Int).toNat = 1 from rfl, Nat.reduceMul, Nat.reduceEqDiff, Go.Addr.add, ↓reduceIte] at hx519_0)
          have qi519 : (1 < t514.length) = True := eq_true (by omega)
          (try rw [show ((1 : Int)).toNat = 1 from rfl] at hx519_0)
          replace p519 := eq_true p519
          replace q519 := eq_true q519
          refine start_ (n := 9) (S := fun w' => w'.cell? ad518 = some (.int .i64 (rd t514 0)) ∧ w'.cell? ⟨ad518.block, ad518.off + 1, none⟩ = some (.int .i64 (rd t514 1))) (ds := []) #[false, false, false, false, false, false, false, false, false] (by kernel_rfl) rfl rfl ⟨hx518_0, hx519_0⟩ (fun hHeld => ?_); refine with_tabW impl_ReadMatrix.tab7 impl_ReadMatrix.bits7 (fun HT_ HW_ => ?_)
          generalize wc.drew = w22 at HO_4 HO_5 BK509 HB hx518_0 hx519_0 hHeld ⊢
          refine pure_ (i := 0) (N := some 33) (v := ?_) (a' := ?_) #[true, false, false, false, false, false, false, false, false] rfl rfl (any_of HT_.out (by kernel_rfl)) (fun _ _ _ h => h) (Or.inl ⟨by rfl, ?_⟩) ?_ ?_
          rotate_left
          ·intro w'
           first | (go_simp; with_reducible rfl) | (simp [go_sem, Instr.field, asAgg] <;> with_reducible rfl)
          rotate_left
          ·simp only [Act.put, List.setIfInBounds_toArray, List.set_cons_zero, List.set_cons_succ, i64_w, i32_w]
           rfl
          refine pure_ (i := 1) (N := some 34) (v := ?_) (a' := ?_) #[true, true, false, false, false, false, false, false, false] rfl rfl (any_of HT_.out (by kernel_rfl)) (fun _ _ _ h => h) (Or.inl ⟨by rfl, ?_⟩) ?_ ?_
          rotate_left
          ·intro w'
           first | (go_simp; with_reducible rfl) | (simp [go_sem, Instr.field, asAgg] <;> with_reducible rfl)
          rotate_left
          ·simp only [Act.put, List.setIfInBounds_toArray, List.set_cons_zero, List.set_cons_succ, i64_w, i32_w]
           rfl
          refine pure_ (i := 3) (N := some 36) (v := ?_) (a' := ?_) #[true, true, false, true, false, false, false, false, false] rfl rfl (any_of HT_.out (by kernel_rfl)) (fun _ _ _ h => h) (Or.inl ⟨by rfl, ?_⟩) ?_ ?_
          rotate_left
          ·intro w'
           first | (go_simp; with_reducible rfl) | (simp [go_sem, Instr.field, asAgg] <;> with_reducible rfl)
          rotate_left
          ·simp only [Act.put, List.setIfInBounds_toArray, List.set_cons_zero, List.set_cons_succ, i64_w, i32_w]
           rfl
          refine pure_ (i := 4) (N := some 37) (v := ?_) (a' := ?_) #[true, true, false, true, true, false, false, false, false] rfl rfl (any_of HT_.out (by kernel_rfl)) (fun _ _ _ h => h) (Or.inl ⟨by rfl, ?_⟩) ?_ ?_
          rotate_left
          ·intro w'
           first | (go_simp; with_reducible rfl) | (simp [go_sem, Instr.field, asAgg] <;> with_reducible rfl)
          rotate_left
          ·simp only [Act.put, List.setIfInBounds_toArray, List.set_cons_zero, List.set_cons_succ, i64_w, i32_w]
           rfl
          refine take_ (i := 2) (N := some 35) (v := ?_) (a' := ?_) #[true, true, true, true, true, false, false, false, false] rfl rfl (take_ofW HT_.out HW_.out (by kernel_rfl)) (fun _ _ _ h => h) (Or.inl ⟨by rfl, ?_⟩) hHeld ?_ ?_
          rotate_left
          ·rintro w' ⟨s0, s1⟩
           go_simp
           with_reducible rfl
          rotate_left
          ·simp only [Act.put, List.setIfInBounds_toArray, List.set_cons_zero, List.set_cons_succ, i64_w, i32_w]
           rfl
          refine take_ (i := 5) (N := some 38) (v := ?_) (a' := ?_) #[true, true, true, true, true, true, false, false, false] rfl rfl (take_ofW HT_.out HW_.out (by kernel_rfl)) (fun _ _ _ h => h) (Or.inl ⟨by rfl, ?_⟩) hHeld ?_ ?_
          rotate_left
          ·rintro w' ⟨s0, s1⟩
           go_simp
           with_reducible rfl
          rotate_left
          ·simp only [Act.put, List.setIfInBounds_toArray, List.set_cons_zero, List.set_cons_succ, i64_w, i32_w]
           rfl
          refine pure_ (i := 6) (N := some 39) (v := ?_) (a' := ?_) #[true, true, true, true, true, true, true, false, false] rfl rfl (any_of HT_.out (by kernel_rfl)) (fun _ _ _ h => h) (Or.inl ⟨by rfl, ?_⟩) ?_ ?_
          rotate_left
          ·intro w'
           first | (go_simp; with_reducible rfl) | (simp [go_sem, Instr.field, asAgg] <;> with_reducible rfl)
          rotate_left
          ·simp only [Act.put, List.setIfInBounds_toArray, List.set_cons_zero, List.set_cons_succ, i64_w, i32_w]
           rfl
          refine one_ (i := 7) (N := some 7) #[true, true, true, true, true, true, true, true, false] rfl rfl (one_of HT_.out (by kernel_rfl)) (by decide) (fun K hK => ?_)
          refine box_step ?hg (N := 7) ?hd (cs := #[.int .i64 0, .int .i64 0, .slice none 0 0]) (t := 27) ?hr ?_; (case hd => rfl); (case hg => rfl); (case hr => first | (go_simp; done) | (go_simp; rfl))
          intro gb520 hg w24 hbox hb
          have HS0_ := (hb.cell (World.block_lt_of_cell? _ _ (hHeld.1))).trans (hHeld.1)
          have HS1_ := (hb.cell (World.block_lt_of_cell? _ _ (hHeld.2))).trans (hHeld.2)
          have n0_ := Aside0.mk (Kd.R_below (by (with_reducible repeat (first | apply Kd.R_alloc | apply Kd.R_drewN | apply Kd.R_drew)); exact HO_4.out) hb)
          have n1_ := Aside0.mk (Kd.R_below (by (with_reducible repeat (first | apply Kd.R_alloc | apply Kd.R_drewN | apply Kd.R_drew)); exact HO_5.out) hb)
          have n2_ := Aside0.mk (blk_below (g := gb509) (o := .cells #[.int .i64 0, .int .i64 0, .slice none 0 0] 27 (0, 0)) (by (with_reducible repeat (first | refine blk_drewN ?_ _ | refine blk_drew ?_ | refine blk_alloc ?_ _)); exact BK509.out) hb)
          have n3_ := Aside0.mk (below_step (by repeat (first | (with_reducible first | exact HB.out | apply below_alloc | apply pw_below_drewN | apply below_drew1 | refine below_set ?_ GE509.out) | exact HB.out)) hb)
          have n4_ := Aside0.mk (hbox)
          have n5_ := Aside0.mk ((by rw [hg]; exact (below_size (by repeat (first | (with_reducible first | exact HB.out | apply below_alloc | apply pw_below_drewN | apply below_drew1 | refine below_set ?_ GE509.out) | exact HB.out))) : w.heap.size ≤ gb520))
          have n6_ := Aside0.mk ((by rw [hg]; exact (below_size (by repeat (first | (with_reducible first | exact HB.out | apply below_alloc | apply pw_below_drewN | apply below_drew1 | refine below_set ?_ GE509.out) | exact HB.out))) : w.heap.size ≤ gb520))
          have n7_ := Aside0.mk ((by rw [hg]; exact Nat.ne_of_lt (blk_lt (g := gb509) (o := .cells #[.int .i64 0, .int .i64 0, .slice none 0 0] 27 (0, 0)) (by (with_reducible repeat (first | refine blk_drewN ?_ _ | refine blk_drew ?_ | refine blk_alloc ?_ _)); exact BK509.out)) : gb509 ≠ gb520))
          have n8_ := Aside0.mk ((by rw [hg]; exact Nat.ne_of_gt (blk_lt (g := gb509) (o := .cells #[.int .i64 0, .int .i64 0, .slice none 0 0] 27 (0, 0)) (by (with_reducible repeat (first | refine blk_drewN ?_ _ | refine blk_drew ?_ | refine blk_alloc ?_ _)); exact BK509.out)) : gb520 ≠ gb509))
          clear HO_4
          clear HO_5
          clear BK509
          clear HB
          have HO_4 := n0_
          have HO_5 := n1_
          have BK509 := n2_
          have HB := n3_
          have BK520 := n4_
          have GW520 := n5_
          have GE520 := n6_
          have NB509_520 := n7_
          have NB520_509 := n8_
          clear n0_ n1_ n2_ n3_ n4_ n5_ n6_ n7_ n8_
          clear hb hbox hg
          refine hK.out _ _ ⟨HS0_, HS1_⟩ (fun hHeld => ?_)
          clear hK K
          refine norm_ (a' := ?_) ?_ ?_
          rotate_left
          ·show Act.put _ (some 7) _ = _
           simp only [Act.put, List.setIfInBounds_toArray, List.set_cons_zero, List.set_cons_succ, i64_w, i32_w]
           rfl
          refine one_ (i := 8) (N := none) #[true, true, true, true, true, true, true, true, true] rfl rfl (one_of HT_.out (by kernel_rfl)) (by decide) (fun K hK => ?_)
          have hs25 : w24.cell? ⟨gb520, 0, none⟩ = some (.int .i64 0) := (blk_cell BK520.out 0).trans rfl
          have hfs25 := blk_frozen BK520.out 0
          have hns25_0 := NB509_520.out
          have hms25_0 := NB520_509.out
          have hs26 : w24.cell? ⟨gb520, 1, none⟩ = some (.int .i64 0) := (blk_cell BK520.out 1).trans rfl
          have hfs26 := blk_frozen BK520.out 1
          have hns26_0 := NB509_520.out
          have hms26_0 := NB520_509.out
          have hs27 : w24.cell? ⟨gb520, 2, none⟩ = some (.slice none 0 0) := (blk_cell BK520.out 2).trans rfl
          have hfs27 := blk_frozen BK520.out 2
          have hns27_0 := NB509_520.out
          have hms27_0 := NB520_509.out
          refine skip_ (w1 := ?_) (by rfl) rfl ?_ ?_
          rotate_left
          ·go_simp
           rfl
          refine hK.out _ _ ⟨((cell_far (p := ⟨gb520, _, none⟩) (by first | exact Kd.own_blk (Kd.R_ne HO_5.out BK520.out (by decide)) | (rw [add_block]; exact Kd.own_blk (Kd.R_ne HO_5.out BK520.out (by decide))) | (show (Addr.add _ _).block ≠ _; rw [add_block]; exact Kd.own_blk (Kd.R_ne HO_5.out BK520.out (by decide))) | (dsimp only; exact Kd.own_blk (Kd.R_ne HO_5.out BK520.out (by decide)))) _).trans (((cell_far (p := ⟨gb520, _, none⟩) (by first | exact Kd.own_blk (Kd.R_ne HO_5.out BK520.out (by decide)) | (rw [add_block]; exact Kd.own_blk (Kd.R_ne HO_5.out BK520.out (by decide))) | (show (Addr.add _ _).block ≠ _; rw [add_block]; exact Kd.own_blk (Kd.R_ne HO_5.out BK520.out (by decide))) | (dsimp only; exact Kd.own_blk (Kd.R_ne HO_5.out BK520.out (by decide)))) _).trans (((cell_far (p := ⟨gb520, _, none⟩) (by first | exact Kd.own_blk (Kd.R_ne HO_5.out BK520.out (by decide)) | (rw [add_block]; exact Kd.own_blk (Kd.R_ne HO_5.out BK520.out (by decide))) | (show (Addr.add _ _).block ≠ _; rw [add_block]; exact Kd.own_blk (Kd.R_ne HO_5.out BK520.out (by decide))) | (dsimp only; exact Kd.own_blk (Kd.R_ne HO_5.out BK520.out (by decide)))) _).trans (hHeld.1)))))), ((cell_far (p := ⟨gb520, _, none⟩) (by first | exact Kd.own_blk (Kd.R_ne HO_5.out BK520.out (by decide)) | (rw [add_block]; exact Kd.own_blk (Kd.R_ne HO_5.out BK520.out (by decide))) | (show (Addr.add _ _).block ≠ _; rw [add_block]; exact Kd.own_blk (Kd.R_ne HO_5.out BK520.out (by decide))) | (dsimp only; exact Kd.own_blk (Kd.R_ne HO_5.out BK520.out (by decide)))) _).trans (((cell_far (p := ⟨gb520, _, none⟩) (by first | exact Kd.own_blk (Kd.R_ne HO_5.out BK520.out (by decide)) | (rw [add_block]; exact Kd.own_blk (Kd.R_ne HO_5.out BK520.out (by decide))) | (show (Addr.add _ _).block ≠ _; rw [add_block]; exact Kd.own_blk (Kd.R_ne HO_5.out BK520.out (by decide))) | (dsimp only; exact Kd.own_blk (Kd.R_ne HO_5.out BK520.out (by decide)))) _).trans (((cell_far (p := ⟨gb520, _, none⟩) (by first | exact Kd.own_blk (Kd.R_ne HO_5.out BK520.out (by decide)) | (rw [add_block]; exact Kd.own_blk (Kd.R_ne HO_5.out BK520.out (by decide))) | (show (Addr.add _ _).block ≠ _; rw [add_block]; exact Kd.own_blk (Kd.R_ne HO_5.out BK520.out (by decide))) | (dsimp only; exact Kd.own_blk (Kd.R_ne HO_5.out BK520.out (by decide)))) _).trans (hHeld.2))))))⟩ (fun hHeld => ?_)
          clear hK K
          refine done_ (done_of HT_.out (by kernel_rfl)) ?_
          have n0_ : Aside0 (Kd.R Kd.string 9 (((w24.setCell ⟨gb520, 0, none⟩ (.int .i64 (rd t514 0))).setCell ⟨gb520, 1, none⟩ (.int .i64 (rd t514 1))).setCell ⟨gb520, 2, none⟩ (.slice none 0 0)) w.heap.size (fun _ => True) (.slice (some ad513) t510.length co11) t510) := ⟨by (with_reducible repeat (first | apply Kd.R_alloc | apply Kd.R_drewN | apply Kd.R_drew)); exact Kd.R_mono (Kd.R_far (p := ⟨gb520, 2, none⟩) (Kd.R_far (p := ⟨gb520, 1, none⟩) (Kd.R_far (p := ⟨gb520, 0, none⟩) (Kd.R_types HO_4.out BK520.out (by decide)) (fun _ hk => hk.2) (.int .i64 (rd t514 0))) (fun _ hk => hk.2) (.int .i64 (rd t514 1))) (fun _ hk => hk.2) (.slice none 0 0)) (fun _ hk => trivial)⟩
          have n1_ : Aside0 (Kd.R (Kd.int .i64) 2 (((w24.setCell ⟨gb520, 0, none⟩ (.int .i64 (rd t514 0))).setCell ⟨gb520, 1, none⟩ (.int .i64 (rd t514 1))).setCell ⟨gb520, 2, none⟩ (.slice none 0 0)) w.heap.size (fun _ => True) (.slice (some ad518) t514.length co23) t514) := ⟨by (with_reducible repeat (first | apply Kd.R_alloc | apply Kd.R_drewN | apply Kd.R_drew)); exact Kd.R_mono (Kd.R_far (p := ⟨gb520, 2, none⟩) (Kd.R_far (p := ⟨gb520, 1, none⟩) (Kd.R_far (p := ⟨gb520, 0, none⟩) (Kd.R_types HO_5.out BK520.out (by decide)) (fun _ hk => hk.2) (.int .i64 (rd t514 0))) (fun _ hk => hk.2) (.int .i64 (rd t514 1))) (fun _ hk => hk.2) (.slice none 0 0)) (fun _ hk => trivial)⟩
          have n2_ : Aside0 ((((w24.setCell ⟨gb520, 0, none⟩ (.int .i64 (rd t514 0))).setCell ⟨gb520, 1, none⟩ (.int .i64 (rd t514 1))).setCell ⟨gb520, 2, none⟩ (.slice none 0 0)).heap[gb509]? = some (.cells #[.int .i64 0, .int .i64 0, .slice none 0 0] 27 (0, 0))) := ⟨by (with_reducible repeat (first | refine blk_drewN ?_ _ | refine blk_drew ?_ | refine blk_alloc ?_ _)); refine blk_far ?_ NB509_520.out _; (with_reducible repeat (first | refine blk_drewN ?_ _ | refine blk_drew ?_ | refine blk_alloc ?_ _)); refine blk_far ?_ NB509_520.out _; (with_reducible repeat (first | refine blk_drewN ?_ _ | refine blk_drew ?_ | refine blk_alloc ?_ _)); refine blk_far ?_ NB509_520.out _; (with_reducible repeat (first | refine blk_drewN ?_ _ | refine blk_drew ?_ | refine blk_alloc ?_ _)); exact BK509.out⟩
          have n3_ : Aside0 ((((w24.setCell ⟨gb520, 0, none⟩ (.int .i64 (rd t514 0))).setCell ⟨gb520, 1, none⟩ (.int .i64 (rd t514 1))).setCell ⟨gb520, 2, none⟩ (.slice none 0 0)).heap[gb520]? = some (.cells #[.int .i64 (rd t514 0), .int .i64 (rd t514 1), .slice none 0 0] 27 (0, 0))) := ⟨by (with_reducible repeat (first | refine blk_drewN ?_ _ | refine blk_drew ?_ | refine blk_alloc ?_ _)); refine blk_put (cs := #[.int .i64 (rd t514 0), .int .i64 (rd t514 1), .slice none 0 0]) ?_ 2 _ rfl; (with_reducible repeat (first | refine blk_drewN ?_ _ | refine blk_drew ?_ | refine blk_alloc ?_ _)); refine blk_put (cs := #[.int .i64 (rd t514 0), .int .i64 0, .slice none 0 0]) ?_ 1 _ rfl; (with_reducible repeat (first | refine blk_drewN ?_ _ | refine blk_drew ?_ | refine blk_alloc ?_ _)); refine blk_put (cs := #[.int .i64 0, .int .i64 0, .slice none 0 0]) ?_ 0 _ rfl; (with_reducible repeat (first | refine blk_drewN ?_ _ | refine blk_drew ?_ | refine blk_alloc ?_ _)); exact BK520.out⟩
          have n4_ : Aside0 (Below w.heap.size w (((w24.setCell ⟨gb520, 0, none⟩ (.int .i64 (rd t514 0))).setCell ⟨gb520, 1, none⟩ (.int .i64 (rd t514 1))).setCell ⟨gb520, 2, none⟩ (.slice none 0 0))) := ⟨by repeat (first | (with_reducible first | exact HB.out | apply below_alloc | apply pw_below_drewN | apply below_drew1 | refine below_set ?_ GE509.out | refine below_set ?_ GE520.out) | exact HB.out)⟩
          (try clear HO_4)
          (try clear HO_5)
          (try clear BK509)
          (try clear BK520)
          (try clear HB)
          generalize (((w24.setCell ⟨gb520, 0, none⟩ (.int .i64 (rd t514 0))).setCell ⟨gb520, 1, none⟩ (.int .i64 (rd t514 1))).setCell ⟨gb520, 2, none⟩ (.slice none 0 0)) = w28 at n0_ n1_ n2_ n3_ n4_ ⊢
          have HO_4 := n0_
          have HO_5 := n1_
          have BK509 := n2_
          have BK520 := n3_
          have HB := n4_
          clear n0_ n1_ n2_ n3_ n4_
          have q29 : ((ji19) : Int) ≤ ((t510.length : Int) : Int) := of_decide_eq_true (by first | (with_reducible assumption) | assumption)
          obtain ⟨i029, hi029, _, hsz29, _⟩ := info_parts info9
          have hroom29 : t510.length ≤ co11 := (Kd.R_reads' HO_4.out).2.1
          have hC29 : Kd.C Kd.string _ (some ad513) t510.length t510 := (Kd.R_reads' HO_4.out).2.2
          have ql29 : (1 : Int) ≤ ((ji19) : Int) := of_decide_eq_true (by first | (with_reducible assumption) | assumption)
          have hcut29 := cut_mid (P := Tryd.prog) 90 9 .i64 .i64 Tryd.underlying90 hi029 1 hsz29 (some ad513) t510.length co11 1 (ji19) (by omega) ql29 q29 hroom29
          have hr29 := Kd.C_mid (lo := (1 : Int).toNat) (hi := ((ji19) : Int).toNat) (c := co11) hC29 (by omega) (by omega) hroom29
          obtain ⟨A29, hA29⟩ : ∃ A1, A1 = (if co11 = (1 : Int).toNat then (some ad513) else ((some ad513) : Option Addr).map (·.add ((1 : Int).toNat * 1))) := ⟨_, rfl⟩
          obtain ⟨c29, hc29⟩ : ∃ c1, c1 = co11 - (1 : Int).toNat := ⟨_, rfl⟩
          have hy29 : y521.length = ((ji19) : Int).toNat - (1 : Int).toNat := (by rw [Ny521.out, List.length_drop, List.length_take] <;> omega)
          rw [show ((t510).take ((ji19) : Int).toNat).drop (1 : Int).toNat = y521 from Ny521.out.symm] at hr29
          replace hr29 : Kd.C Kd.string _ A29 y521.length y521 := (by rw [hA29]; exact hr29)
          rw [← hy29, ← hA29, ← hc29] at hcut29
          have HR524 := Aside0.mk hr29
          have HC524 := Aside0.mk (show y521.length ≤ c29 from by rw [hy29, hc29]; exact Nat.sub_le_sub_right (Nat.le_trans (by omega) hroom29) _)
          clear hr29 hC29 hroom29 hi029 hsz29 hc29
          have KY29 := Aside0.mk hy29
          have KA29 := Aside0.mk hA29
          clear hy29 hA29
          have KL29 := Aside0.mk (show ((ji19) : Int).toNat ≤ t510.length from by omega)
          have KM29 := Aside0.mk (show 1 ≤ ((ji19) : Int).toNat from by omega)
          replace q29 := eq_true q29
          try go_wp2
          go_loopg [47] kj7 (fun kq v47 w' => ∃ (x47_2 : Int) (x510000_2 : Int) (x510001_2 : Int) (x521002_2 : List (List Int)) (u521002 : Value), v47 = .int .i64 x47_2 ∧ Aside0 (impl_ReadMatrix.l0 kq a0 y521 (y521.length : Int) x47_2 (rd t514 0) (rd t514 1) x521002_2 = some (r1, r2, r3, r4)) ∧ Aside0 (kq ≤ kj7) ∧ Aside0 (Kd.S (Kd.slice 2 (Kd.int .i64)) 65 w' w.heap.size (fun _ => True) u521002 x521002_2) ∧ Aside0 (w'.heap[gb509]? = some (.cells #[.int .i64 x510000_2, .int .i64 x510001_2, (.slice none 0 0)] 27 (0, 0))) ∧ Aside0 (w'.heap[gb520]? = some (.cells #[.int .i64 (rd t514 0), .int .i64 (rd t514 1), u521002] 27 (0, 0))) ∧ Aside0 (Below w.heap.size w w') ∧ Aside0 (Kd.R Kd.string 9 w' w.heap.size (fun _ => True) (.slice (some ad513) t510.length co11) t510))
          case atStart => exact ⟨(0), (0), (0), (([] : List (List Int))), (.slice none 0 0), (by first | rfl | (simp; done) | (simp [*]; done)), H', ⟨Nat.le_refl _⟩, ⟨by first | exact Kd.S_nil _ _ _ _ _ | exact Kd.N_nil _ _ _ _ _ | exact Kd.V_nil _ _ _ _ _ | exact Kd.Q_nil _ _ _ _ _ | exact Kd.R_nil _ _ _ _ _⟩, ⟨by (with_reducible repeat (first | refine blk_drewN ?_ _ | refine blk_drew ?_ | refine blk_alloc ?_ _)); exact BK509.out⟩, ⟨by (with_reducible repeat (first | refine blk_drewN ?_ _ | refine blk_drew ?_ | refine blk_alloc ?_ _)); exact BK520.out⟩, ⟨by repeat (first | (with_reducible first | exact HB.out | apply below_alloc | apply pw_below_drewN | apply below_drew1 | refine below_set ?_ GE509.out | refine below_set ?_ GE520.out) | exact HB.out)⟩, ⟨Kd.R_mono HO_4.out (fun _ _ => trivial)⟩⟩
          case round =>
           clear H'
           try clear c1
           try clear c2
           try clear c2b0
           try clear c2b1
           try clear p2
           try clear q2
           try clear p5
           try clear q5
           try clear hx5
           try clear qi5
           try clear c6
           try clear c6b0
           try clear c6b1
           try clear p6
           try clear c13
           try clear c15
           try clear c17
           try clear c17b0
           try clear c17b1
           try clear c18
           try clear c18b0
           try clear c18b1
           try clear c20
           try clear c20b0
           try clear c20b1
           try clear c21
           try clear c21b0
           try clear c21b1
           try clear c29
           try clear q29
           try clear hcz16_0
           try clear hcz16_1
           try clear hcz16_2
           try clear hcz4_0
           try clear hcz4_1
           try clear hcz4_2
           try clear hfz16_0
           try clear hfz16_1
           try clear hfz16_2
           try clear hfz4_0
           try clear hfz4_1
           try clear hfz4_2
           try clear hx513_0
           try clear hx518_0
           try clear hx519_0
           try clear p2
           try clear p5
           try clear p513
           try clear p518
           try clear p519
           try clear q29
           try clear q5
           try clear q513
           try clear q518
           try clear q519
           clear HO_4 HR524
           obtain ⟨x47_2, x510000_2, x510001_2, x521002_2, u521002, rfl, HA, HK2, HO_521002, BK509, BK520, HB, HO_4⟩ := hrel
           have hroom29 : t510.length ≤ co11 := (Kd.R_reads' HO_4.out).2.1
           have hC29 : Kd.C Kd.string _ (some ad513) t510.length t510 := (Kd.R_reads' HO_4.out).2.2
           have hr29 := Kd.C_mid (lo := (1 : Int).toNat) (hi := ((ji19) : Int).toNat) (c := co11) hC29 (by have := KL29.out; have := KM29.out; omega) (by have := KL29.out; have := KM29.out; omega) hroom29
           rw [show ((t510).take ((ji19) : Int).toNat).drop (1 : Int).toNat = y521 from Ny521.out.symm] at hr29
           replace hr29 : Kd.C Kd.string _ A29 y521.length y521 := (by rw [KA29.out]; exact hr29)
           have HR524 := Aside0.mk hr29
           clear hr29 hC29 hroom29
           cases gk with
           | zero => exact absurd HA.out (by simp [impl_ReadMatrix.l0])
           | succ k2 =>
            have H := HA.out
            clear HA
            simp only [impl_ReadMatrix.l0] at H
            by_cases c30 : x47_2 < (y521.length : Int)
            ·rw [if_pos c30] at H
             have c30b0 : decide (x47_2 < (y521.length : Int)) = true := decide_eq_true c30
             clear c30
             by_cases c31 : 0 ≤ x47_2
             ·rw [if_pos c31] at H
              have c31b0 : decide (0 ≤ x47_2) = true := decide_eq_true c31
              clear c31
              by_cases c32 : x47_2 < (y521.length : Int)
              ·rw [if_pos c32] at H
               have c32b0 : decide (x47_2 < (y521.length : Int)) = true := decide_eq_true c32
               clear c32
               replace H := Option.bind_eq_some_iff.mp H
               obtain ⟨⟨t526, t527⟩, A330, H⟩ := H
               replace H : (if t527 = true then (if x521002_2.length < 5864062014805 then (impl_ReadMatrix.l0 k2 a0 y521 (y521.length : Int) (wrap64 (x47_2 + 1)) (rd t514 0) (rd t514 1) (x521002_2 ++ [t526])) else (none)) else (some (0, 0, ([] : List (List Int)), 5))) = some (r1, r2, r3, r4) := H
               have A33 := Aside0.mk A330
               clear A330
               by_cases c34 : t527 = true
               ·subst c34
                have H1 : (if x521002_2.length < 5864062014805 then (impl_ReadMatrix.l0 k2 a0 y521 (y521.length : Int) (wrap64 (x47_2 + 1)) (rd t514 0) (rd t514 1) (x521002_2 ++ [t526])) else (none)) = some (r1, r2, r3, r4) := by rw [if_pos rfl] at H; exact H
                clear H
                have H := H1
                clear H1
                by_cases c35 : x521002_2.length < 5864062014805
                ·rw [if_pos c35] at H
                 have LMc35 := Aside0.mk c35
                 clear c35
                 obtain ⟨y530, hy530⟩ : ∃ y_ : List (List Int), y_ = (x521002_2 ++ [t526]) := ⟨_, rfl⟩
                 replace H : (impl_ReadMatrix.l0 k2 a0 y521 (y521.length : Int) (wrap64 (x47_2 + 1)) (rd t514 0) (rd t514 1) y530) = some (r1, r2, r3, r4) := by first | (rw [hy530]; with_reducible exact H) | (have H2_ := (Option.bind_some _ _).symm.trans H; rw [hy530]; with_reducible exact H2_) | (have H2_ := (Option.bind_some _ _).symm.trans H; with_reducible exact H2_) | with_reducible exact H | (rw [hy530]; exact H) | exact H
                 have Ny530 := Aside0.mk hy530
                 clear hy530
                 have H' := Aside0.mk H
                 clear H
                 have p525 : 0 ≤ (x47_2 : Int) := of_decide_eq_true (by first | (with_reducible assumption) | assumption)
                 have q525 : x47_2 < (y521.length : Int) := of_decide_eq_true (by first | (with_reducible assumption) | assumption)
                 obtain ⟨ad525, e525, hx525_0⟩ := Kd.at_string HR524.out x47_2 p525 q525
                 cases e525
                 skip
                 replace p525 := eq_true p525
                 replace q525 := eq_true q525
                 go_wp2_with (first | ((with_reducible refine gate_callee (f := 64) rfl ?_); refine goesL_ (some 53) rfl rfl Tryd.func64 (by kernel_rfl) rfl #[.string (rdOf ByteArray.empty y521 x47_2), .string (⟨#[114, 111, 119]⟩ : ByteArray)] rfl (by (try simp only [List.map_toArray, List.map_cons, List.map_nil]); first | done | rfl | (simp only [List.length_drop, List.length_take]; rfl)) ?_; (with_reducible refine (impl_readWords.calls k2 (rdOf ByteArray.empty y521 x47_2) (⟨#[114, 111, 119]⟩ : ByteArray) t526 true _ ?sideG A33.out).mono ?_); (case sideG => exact Glob.below HG.out (by repeat (first | (with_reducible first | exact HB.out | apply below_alloc | apply pw_below_drewN | apply below_drew1 | refine below_set ?_ GE509.out | refine below_set ?_ GE520.out) | exact HB.out))); rintro e w36 ⟨v528, rfl, ho0, hb⟩; refine ⟨_, rfl, ?_⟩; have nL_ := Aside0.mk (Kd.R_below HO_4.out hb); clear HO_4; have HO_4 := nL_; clear nL_; have n0_ := Aside0.mk (Kd.S_elder' (by (with_reducible repeat (first | apply Kd.S_alloc | apply Kd.S_drewN | apply Kd.S_drew)); exact HO_521002.out) (Kd.R_base ho0) hb); have n1_ := Aside0.mk (Kd.R_lower ho0 (below_size (by repeat (first | (with_reducible first | exact HB.out | apply below_alloc | apply pw_below_drewN | apply below_drew1 | refine below_set ?_ GE509.out | refine below_set ?_ GE520.out) | exact HB.out)))); have n2_ := Aside0.mk (blk_below (g := gb509) (o := .cells #[.int .i64 x510000_2, .int .i64 x510001_2, .slice none 0 0] 27 (0, 0)) (by (with_reducible repeat (first | refine blk_drewN ?_ _ | refine blk_drew ?_ | refine blk_alloc ?_ _)); exact BK509.out) hb); have n3_ := Aside0.mk (blk_below (g := gb520) (o := .cells #[.int .i64 (rd t514 0), .int .i64 (rd t514 1), u521002] 27 (0, 0)) (by (with_reducible repeat (first | refine blk_drewN ?_ _ | refine blk_drew ?_ | refine blk_alloc ?_ _)); exact BK520.out) hb); have n4_ := Aside0.mk (below_step (by repeat (first | (with_reducible first | exact HB.out | apply below_alloc | apply pw_below_drewN | apply below_drew1 | refine below_set ?_ GE509.out | refine below_set ?_ GE520.out) | exact HB.out)) hb); clear HO_521002; clear BK509; clear BK520; clear HB; have HO_521002 := n0_; have HO529 := n1_; have BK509 := n2_; have BK520 := n3_; have HB := n4_; clear n0_ n1_ n2_ n3_ n4_; (try clear hb); (try clear hb2); (try clear hk); (try clear hi); (try clear ho0); have hnb37 := NB520_509.out; have hnc37 := NB509_520.out; have hcz38_0 : w36.cell? ⟨gb520, 0, none⟩ = some (.int .i64 (rd t514 0)) := (blk_cell BK520.out 0).trans rfl; have hcz38_1 : w36.cell? ⟨gb520, 1, none⟩ = some (.int .i64 (rd t514 1)) := (blk_cell BK520.out 1).trans rfl; have hcz38_2 : w36.cell? ⟨gb520, 2, none⟩ = some (u521002) := (blk_cell BK520.out 2).trans rfl; have hfz38_0 := blk_frozen BK520.out 0; have hfz38_1 := blk_frozen BK520.out 1; have hfz38_2 := blk_frozen BK520.out 2; obtain ⟨Ao40, co40, eo40⟩ := Kd.R_slice HO529.out; subst eo40) | ((with_reducible refine gate_builtin (b := .append) (xs := #[.tmp 60, .tmp 62]) rfl ?_); (try (refine gate_guard (by rfl) ?_; dsimp only)); at_builtin; refine Kd.S_append (Kd.slice 2 (Kd.int .i64)) (w0 := w) w.heap.size rfl (.tmp 60) (.tmp 62) 22 65 (.slice none 0 0) 24 rfl Tryd.underlying22 info65 rfl (by decide) (by omega) u521002 x521002_2 t526 [.slice Ao40 t526.length co40] (fun _ => True) (fun k_ => some k_ = (.slice Ao40 t526.length co40 : Value).ownBlock) rfl rfl ?aP (fun k_ hk_ => ((Kd.R_mono (ok' := fun k_ => ((fun _ => True)) k_ ∧ some k_ ≠ (u521002 : Value).ownBlock) (Kd.R_apart' (HO529.out) (Kd.S_typed HO_521002.out) (by decide)) (fun k_ hk => ⟨trivial, hk.2⟩))).1 k_ hk_.symm) ?aF ?aO ?aB ?aS ?aL ?_; (case aP => exact Kd.M_row (Kd.R_mono (Kd.R_tight rfl (Kd.R_mono (ok' := fun k_ => ((fun _ => True)) k_ ∧ some k_ ≠ (u521002 : Value).ownBlock) (Kd.R_apart' (HO529.out) (Kd.S_typed HO_521002.out) (by decide)) (fun k_ hk => ⟨trivial, hk.2⟩))) (fun _ h_ => h_))); (case aB => exact (by repeat (first | (with_reducible first | exact HB.out | apply below_alloc | apply pw_below_drewN | apply below_drew1 | refine below_set ?_ GE509.out | refine below_set ?_ GE520.out) | exact HB.out))); (case aF => exact (fun _ _ => trivial)); (case aO => exact (by (with_reducible repeat (first | apply Kd.S_alloc | apply Kd.S_drewN | apply Kd.S_drew)); exact Kd.S_mono HO_521002.out (fun k_ hk => ⟨trivial, fun e_ => hk.2 e_⟩))); (case aS => exact (below_size (by repeat (first | (with_reducible first | exact HB.out | apply below_alloc | apply pw_below_drewN | apply below_drew1 | refine below_set ?_ GE509.out | refine below_set ?_ GE520.out) | exact HB.out)))); (case aL => have := LMc35.out; omega); intro v531 w39 ho hb hg hat; rw [← Ny530.out] at ho; have nL_ := Aside0.mk (Kd.R_over' HO_4.out (Kd.S_typed HO_521002.out) (by decide) hg); clear HO_4; have HO_4 := nL_; clear nL_; have n0_ := Aside0.mk (blk_grown (g := gb509) (o := .cells #[.int .i64 x510000_2, .int .i64 x510001_2, .slice none 0 0] 27 (0, 0)) (by (with_reducible repeat (first | refine blk_drewN ?_ _ | refine blk_drew ?_ | refine blk_alloc ?_ _)); exact BK509.out) hg (Kd.S_ne HO_521002.out BK509.out (by decide))); have n1_ := Aside0.mk (blk_grown (g := gb520) (o := .cells #[.int .i64 (rd t514 0), .int .i64 (rd t514 1), u521002] 27 (0, 0)) (by (with_reducible repeat (first | refine blk_drewN ?_ _ | refine blk_drew ?_ | refine blk_alloc ?_ _)); exact BK520.out) hg (Kd.S_ne HO_521002.out BK520.out (by decide))); have n2_ := Aside0.mk (hb); have n3_ := Aside0.mk (ho); clear BK509; clear BK520; clear HB; clear HO_521002; clear HO529; have BK509 := n0_; have BK520 := n1_; have HB := n2_; have HO532 := n3_; clear n0_ n1_ n2_ n3_; clear ho hb hg hat; obtain ⟨Ao41, co41, eo41⟩ := Kd.S_slice HO532.out; subst eo41; have hcz42_0 : w39.cell? ⟨gb520, 0, none⟩ = some (.int .i64 (rd t514 0)) := (blk_cell BK520.out 0).trans rfl; have hcz42_1 : w39.cell? ⟨gb520, 1, none⟩ = some (.int .i64 (rd t514 1)) := (blk_cell BK520.out 1).trans rfl; have hcz42_2 : w39.cell? ⟨gb520, 2, none⟩ = some (u521002) := (blk_cell BK520.out 2).trans rfl; have hfz42_0 := blk_frozen BK520.out 0; have hfz42_1 := blk_frozen BK520.out 1; have hfz42_2 := blk_frozen BK520.out 2))
                 go_roundg k2
                 case measure => have := HJ7.out; have := HK2.out; omega
                 case rel => exact ⟨(wrap64 (x47_2 + 1)), (x510000_2), (x510001_2), (y530), (.slice Ao41 y530.length co41), (by first | rfl | (simp; done) | (simp [*]; done)), H', ⟨by have := HJ7.out; have := HK2.out; omega⟩, ⟨by (with_reducible repeat (first | apply Kd.S_alloc | apply Kd.S_drewN | apply Kd.S_drew)); exact Kd.S_mono (Kd.S_far (p := ⟨gb520, 2, none⟩) (Kd.S_types HO532.out BK520.out (by decide)) (fun _ hk => hk.2) (.slice Ao41 y530.length co41)) (fun _ hk => trivial)⟩, ⟨by (with_reducible repeat (first | refine blk_drewN ?_ _ | refine blk_drew ?_ | refine blk_alloc ?_ _)); refine blk_far ?_ NB509_520.out _; (with_reducible repeat (first | refine blk_drewN ?_ _ | refine blk_drew ?_ | refine blk_alloc ?_ _)); exact BK509.out⟩, ⟨by (with_reducible repeat (first | refine blk_drewN ?_ _ | refine blk_drew ?_ | refine blk_alloc ?_ _)); refine blk_put (cs := #[.int .i64 (rd t514 0), .int .i64 (rd t514 1), u521002]) ?_ 2 _ rfl; (with_reducible repeat (first | refine blk_drewN ?_ _ | refine blk_drew ?_ | refine blk_alloc ?_ _)); exact BK520.out⟩, ⟨by repeat (first | (with_reducible first | exact HB.out | apply below_alloc | apply pw_below_drewN | apply below_drew1 | refine below_set ?_ GE509.out | refine below_set ?_ GE520.out) | exact HB.out)⟩, ⟨Kd.R_set HO_4.out BK520.out (by decide) 2 (.slice Ao41 y530.length co41)⟩⟩
                ·rw [if_neg c35] at H
                 exact absurd H (by simp)
               ·replace c34 := Bool.eq_false_iff.mpr c34
                subst c34
                have H1 : (some (0, 0, ([] : List (List Int)), 5)) = some (r1, r2, r3, r4) := by rw [if_neg (show ¬ (false = true) by decide)] at H; exact H
                clear H
                have H := H1
                clear H1
                simp only [Option.some.injEq, Prod.mk.injEq] at H
                obtain ⟨rfl, rfl, rfl, rfl⟩ := H
                have p525 : 0 ≤ (x47_2 : Int) := of_decide_eq_true (by first | (with_reducible assumption) | assumption)
                have q525 : x47_2 < (y521.length : Int) := of_decide_eq_true (by first | (with_reducible assumption) | assumption)
                obtain ⟨ad525, e525, hx525_0⟩ := Kd.at_string HR524.out x47_2 p525 q525
                cases e525
                skip
                replace p525 := eq_true p525
                replace q525 := eq_true q525
                go_wp2_with (first | ((with_reducible refine gate_callee (f := 64) rfl ?_); refine goesL_ (some 53) rfl rfl Tryd.func64 (by kernel_rfl) rfl #[.string (rdOf ByteArray.empty y521 x47_2), .string (⟨#[114, 111, 119]⟩ : ByteArray)] rfl (by (try simp only [List.map_toArray, List.map_cons, List.map_nil]); first | done | rfl | (simp only [List.length_drop, List.length_take]; rfl)) ?_; (with_reducible refine (impl_readWords.calls k2 (rdOf ByteArray.empty y521 x47_2) (⟨#[114, 111, 119]⟩ : ByteArray) t526 false _ ?sideG A33.out).mono ?_); (case sideG => exact Glob.below HG.out (by repeat (first | (with_reducible first | exact HB.out | apply below_alloc | apply pw_below_drewN | apply below_drew1 | refine below_set ?_ GE509.out | refine below_set ?_ GE520.out) | exact HB.out))); rintro e w43 ⟨v528, rfl, ho0, hb⟩; refine ⟨_, rfl, ?_⟩; have n0_ := Aside0.mk (Kd.S_elder' (by (with_reducible repeat (first | apply Kd.S_alloc | apply Kd.S_drewN | apply Kd.S_drew)); exact HO_521002.out) (Kd.R_base ho0) hb); have n1_ := Aside0.mk (Kd.R_lower ho0 (below_size (by repeat (first | (with_reducible first | exact HB.out | apply below_alloc | apply pw_below_drewN | apply below_drew1 | refine below_set ?_ GE509.out | refine below_set ?_ GE520.out) | exact HB.out)))); have n2_ := Aside0.mk (blk_below (g := gb509) (o := .cells #[.int .i64 x510000_2, .int .i64 x510001_2, .slice none 0 0] 27 (0, 0)) (by (with_reducible repeat (first | refine blk_drewN ?_ _ | refine blk_drew ?_ | refine blk_alloc ?_ _)); exact BK509.out) hb); have n3_ := Aside0.mk (blk_below (g := gb520) (o := .cells #[.int .i64 (rd t514 0), .int .i64 (rd t514 1), u521002] 27 (0, 0)) (by (with_reducible repeat (first | refine blk_drewN ?_ _ | refine blk_drew ?_ | refine blk_alloc ?_ _)); exact BK520.out) hb); have n4_ := Aside0.mk (below_step (by repeat (first | (with_reducible first | exact HB.out | apply below_alloc | apply pw_below_drewN | apply below_drew1 | refine below_set ?_ GE509.out | refine below_set ?_ GE520.out) | exact HB.out)) hb); clear HO_521002; clear BK509; clear BK520; clear HB; have HO_521002 := n0_; have HO529 := n1_; have BK509 := n2_; have BK520 := n3_; have HB := n4_; clear n0_ n1_ n2_ n3_ n4_; (try clear hb); (try clear hb2); (try clear hk); (try clear hi); (try clear ho0); have hnb44 := NB509_520.out; have hnc44 := NB520_509.out; have hcz45_0 : w43.cell? ⟨gb509, 0, none⟩ = some (.int .i64 x510000_2) := (blk_cell BK509.out 0).trans rfl; have hcz45_1 : w43.cell? ⟨gb509, 1, none⟩ = some (.int .i64 x510001_2) := (blk_cell BK509.out 1).trans rfl; have hcz45_2 : w43.cell? ⟨gb509, 2, none⟩ = some (.slice none 0 0) := (blk_cell BK509.out 2).trans rfl; have hfz45_0 := blk_frozen BK509.out 0; have hfz45_1 := blk_frozen BK509.out 1; have hfz45_2 := blk_frozen BK509.out 2))
                refine bodyPost_ret (results_ct rfl _ _ gb509 27 #[.int .i64 0, .int .i64 0, .slice none 0 0] (0, 0) _ rfl (by (with_reducible repeat (first | refine blk_drewN ?_ _ | refine blk_drew ?_ | refine blk_alloc ?_ _)); refine blk_put (cs := #[.int .i64 0, .int .i64 0, .slice none 0 0]) ?_ 2 _ rfl; (with_reducible repeat (first | refine blk_drewN ?_ _ | refine blk_drew ?_ | refine blk_alloc ?_ _)); refine blk_put (cs := #[.int .i64 0, .int .i64 x510001_2, .slice none 0 0]) ?_ 1 _ rfl; (with_reducible repeat (first | refine blk_drewN ?_ _ | refine blk_drew ?_ | refine blk_alloc ?_ _)); refine blk_put (cs := #[.int .i64 x510000_2, .int .i64 x510001_2, .slice none 0 0]) ?_ 0 _ rfl; (with_reducible repeat (first | refine blk_drewN ?_ _ | refine blk_drew ?_ | refine blk_alloc ?_ _)); exact BK509.out) Tryd.underlying27 rfl (by kernel_rfl)) rfl ?_
                exact ⟨_, by first | rfl | (simp [errW_none, errW_some] <;> rfl) | (simp only [← hji19]; first | rfl | (simp [errW_none, errW_some] <;> rfl)) | (simp [*, errW_none, errW_some] <;> rfl), by first | exact Kd.S_nil _ _ _ _ _ | exact Kd.N_nil _ _ _ _ _ | exact Kd.V_nil _ _ _ _ _ | exact Kd.Q_nil _ _ _ _ _ | exact Kd.R_nil _ _ _ _ _, by repeat (first | (with_reducible first | exact HB.out | apply below_alloc | apply pw_below_drewN | apply below_drew1 | refine below_set ?_ GE509.out | refine below_set ?_ GE520.out) | exact HB.out)⟩
              ·rw [if_neg c32] at H
               exact absurd H (by simp)
             ·rw [if_neg c31] at H
              exact absurd H (by simp)
            ·rw [if_neg c30] at H
             have c30b0 : decide (x47_2 < (y521.length : Int)) = false := decide_eq_false c30
             clear c30
             replace H := Option.bind_eq_some_iff.mp H
             obtain ⟨t533, A460, H⟩ := H
             replace H : (if t533.toList = a0.toList then (some ((rd t514 0), (rd t514 1), x521002_2, 0)) else (some (0, 0, ([] : List (List Int)), 5))) = some (r1, r2, r3, r4) := H
             have A46 := Aside0.mk A460
             clear A460
             by_cases c47 : t533.toList = a0.toList
             ·rw [if_pos c47] at H
              have c47b0 : (t533.toList == a0.toList) = true := beq_iff_eq.mpr c47
              have c47b1 : (t533.toList != a0.toList) = false := bne_eq_false_iff_eq.mpr c47
              clear c47
              simp only [Option.some.injEq, Prod.mk.injEq] at H
              obtain ⟨rfl, rfl, rfl, rfl⟩ := H
              have hnb48 := NB520_509.out
              have hnc48 := NB509_520.out
              have hcz49_0 : wr.cell? ⟨gb520, 0, none⟩ = some (.int .i64 (rd t514 0)) := (blk_cell BK520.out 0).trans rfl
              have hcz49_1 : wr.cell? ⟨gb520, 1, none⟩ = some (.int .i64 (rd t514 1)) := (blk_cell BK520.out 1).trans rfl
              have hcz49_2 : wr.cell? ⟨gb520, 2, none⟩ = some (u521002) := (blk_cell BK520.out 2).trans rfl
              have hfz49_0 := blk_frozen BK520.out 0
              have hfz49_1 := blk_frozen BK520.out 1
              have hfz49_2 := blk_frozen BK520.out 2
              obtain ⟨Ao50, co50, eo50⟩ := Kd.S_slice HO_521002.out
              subst eo50
              go_wp2_with (first | ((with_reducible refine gate_callee (f := 12) rfl ?_); refine goesL_ (some 67) rfl rfl Tryd.func12 (by kernel_rfl) rfl #[.agg #[.int .i64 (rd t514 0), .int .i64 (rd t514 1), .slice Ao50 x521002_2.length co50]] rfl (by (try simp only [List.map_toArray, List.map_cons, List.map_nil]); first | done | rfl | (simp only [List.length_drop, List.length_take]; rfl)) ?_; (with_reducible refine (impl_MatrixText.calls k2 (rd t514 0) (rd t514 1) _ _ x521002_2 t533 _ ?side1 ?side2 A46.out).mono ?_); (case side1 => repeat (first | exact (Kd.S_reads' HO_521002.out).2.2 | (with_reducible refine Kd.C_alloc ?_ _) | (with_reducible refine Kd.C_drewN ?_ _) | (with_reducible refine Kd.C_drew ?_))); (case side2 => exact (Kd.S_reads' HO_521002.out).2.1); rintro e w51 ⟨rfl, hb⟩; refine ⟨_, rfl, ?_⟩; have n0_ := Aside0.mk (Kd.S_below (by (with_reducible repeat (first | apply Kd.S_alloc | apply Kd.S_drewN | apply Kd.S_drew)); exact HO_521002.out) hb); have n1_ := Aside0.mk (blk_below (g := gb509) (o := .cells #[.int .i64 x510000_2, .int .i64 x510001_2, .slice none 0 0] 27 (0, 0)) (by (with_reducible repeat (first | refine blk_drewN ?_ _ | refine blk_drew ?_ | refine blk_alloc ?_ _)); exact BK509.out) hb); have n2_ := Aside0.mk (blk_below (g := gb520) (o := .cells #[.int .i64 (rd t514 0), .int .i64 (rd t514 1), .slice Ao50 x521002_2.length co50] 27 (0, 0)) (by (with_reducible repeat (first | refine blk_drewN ?_ _ | refine blk_drew ?_ | refine blk_alloc ?_ _)); exact BK520.out) hb); have n3_ := Aside0.mk (below_step (by repeat (first | (with_reducible first | exact HB.out | apply below_alloc | apply pw_below_drewN | apply below_drew1 | refine below_set ?_ GE509.out | refine below_set ?_ GE520.out) | exact HB.out)) hb); clear HO_521002; clear BK509; clear BK520; clear HB; have HO_521002 := n0_; have BK509 := n1_; have BK520 := n2_; have HB := n3_; clear n0_ n1_ n2_ n3_; (try clear hb); (try clear hb2); (try clear hk); (try clear hi); have hcz52_0 : w51.cell? ⟨gb520, 0, none⟩ = some (.int .i64 (rd t514 0)) := (blk_cell BK520.out 0).trans rfl; have hcz52_1 : w51.cell? ⟨gb520, 1, none⟩ = some (.int .i64 (rd t514 1)) := (blk_cell BK520.out 1).trans rfl; have hcz52_2 : w51.cell? ⟨gb520, 2, none⟩ = some (.slice Ao50 x521002_2.length co50) := (blk_cell BK520.out 2).trans rfl; have hfz52_0 := blk_frozen BK520.out 0; have hfz52_1 := blk_frozen BK520.out 1; have hfz52_2 := blk_frozen BK520.out 2; have hcz53_0 : w51.cell? ⟨gb509, 0, none⟩ = some (.int .i64 x510000_2) := (blk_cell BK509.out 0).trans rfl; have hcz53_1 : w51.cell? ⟨gb509, 1, none⟩ = some (.int .i64 x510001_2) := (blk_cell BK509.out 1).trans rfl; have hcz53_2 : w51.cell? ⟨gb509, 2, none⟩ = some (.slice none 0 0) := (blk_cell BK509.out 2).trans rfl; have hfz53_0 := blk_frozen BK509.out 0; have hfz53_1 := blk_frozen BK509.out 1; have hfz53_2 := blk_frozen BK509.out 2))
              refine bodyPost_ret (results_ct rfl _ _ gb509 27 #[.int .i64 (rd t514 0), .int .i64 (rd t514 1), .slice Ao50 x521002_2.length co50] (0, 0) _ rfl (by (with_reducible repeat (first | refine blk_drewN ?_ _ | refine blk_drew ?_ | refine blk_alloc ?_ _)); refine blk_put (cs := #[.int .i64 (rd t514 0), .int .i64 (rd t514 1), .slice none 0 0]) ?_ 2 _ rfl; (with_reducible repeat (first | refine blk_drewN ?_ _ | refine blk_drew ?_ | refine blk_alloc ?_ _)); refine blk_put (cs := #[.int .i64 (rd t514 0), .int .i64 x510001_2, .slice none 0 0]) ?_ 1 _ rfl; (with_reducible repeat (first | refine blk_drewN ?_ _ | refine blk_drew ?_ | refine blk_alloc ?_ _)); refine blk_put (cs := #[.int .i64 x510000_2, .int .i64 x510001_2, .slice none 0 0]) ?_ 0 _ rfl; (with_reducible repeat (first | refine blk_drewN ?_ _ | refine blk_drew ?_ | refine blk_alloc ?_ _)); exact BK509.out) Tryd.underlying27 rfl (by kernel_rfl)) rfl ?_
              exact ⟨_, by first | rfl | (simp [errW_none, errW_some] <;> rfl) | (simp only [← hji19]; first | rfl | (simp [errW_none, errW_some] <;> rfl)) | (simp [*, errW_none, errW_some] <;> rfl), by (with_reducible repeat (first | apply Kd.S_alloc | apply Kd.S_drewN | apply Kd.S_drew)); exact Kd.S_mono (Kd.S_far (p := ⟨gb509, 2, none⟩) (Kd.S_far (p := ⟨gb509, 1, none⟩) (Kd.S_far (p := ⟨gb509, 0, none⟩) (Kd.S_types HO_521002.out BK509.out (by decide)) (fun _ hk => hk.2) (.int .i64 (rd t514 0))) (fun _ hk => hk.2) (.int .i64 (rd t514 1))) (fun _ hk => hk.2) (.slice Ao50 x521002_2.length co50)) (fun _ hk => trivial), by repeat (first | (with_reducible first | exact HB.out | apply below_alloc | apply pw_below_drewN | apply below_drew1 | refine below_set ?_ GE509.out | refine below_set ?_ GE520.out) | exact HB.out)⟩
             ·rw [if_neg c47] at H
              have c47b0 : (t533.toList == a0.toList) = false := beq_eq_false_iff_ne.mpr c47
              have c47b1 : (t533.toList != a0.toList) = true := bne_iff_ne.mpr c47
              simp only [Option.some.injEq, Prod.mk.injEq] at H
              obtain ⟨rfl, rfl, rfl, rfl⟩ := H
              have hnb54 := NB520_509.out
              have hnc54 := NB509_520.out
              have hcz55_0 : wr.cell? ⟨gb520, 0, none⟩ = some (.int .i64 (rd t514 0)) := (blk_cell BK520.out 0).trans rfl
              have hcz55_1 : wr.cell? ⟨gb520, 1, none⟩ = some (.int .i64 (rd t514 1)) := (blk_cell BK520.out 1).trans rfl
              have hcz55_2 : wr.cell? ⟨gb520, 2, none⟩ = some (u521002) := (blk_cell BK520.out 2).trans rfl
              have hfz55_0 := blk_frozen BK520.out 0
              have hfz55_1 := blk_frozen BK520.out 1
              have hfz55_2 := blk_frozen BK520.out 2
              obtain ⟨Ao56, co56, eo56⟩ := Kd.S_slice HO_521002.out
              subst eo56
              go_wp2_with (first | ((with_reducible refine gate_callee (f := 12) rfl ?_); refine goesL_ (some 67) rfl rfl Tryd.func12 (by kernel_rfl) rfl #[.agg #[.int .i64 (rd t514 0), .int .i64 (rd t514 1), .slice Ao56 x521002_2.length co56]] rfl (by (try simp only [List.map_toArray, List.map_cons, List.map_nil]); first | done | rfl | (simp only [List.length_drop, List.length_take]; rfl)) ?_; (with_reducible refine (impl_MatrixText.calls k2 (rd t514 0) (rd t514 1) _ _ x521002_2 t533 _ ?side1 ?side2 A46.out).mono ?_); (case side1 => repeat (first | exact (Kd.S_reads' HO_521002.out).2.2 | (with_reducible refine Kd.C_alloc ?_ _) | (with_reducible refine Kd.C_drewN ?_ _) | (with_reducible refine Kd.C_drew ?_))); (case side2 => exact (Kd.S_reads' HO_521002.out).2.1); rintro e w57 ⟨rfl, hb⟩; refine ⟨_, rfl, ?_⟩; have n0_ := Aside0.mk (Kd.S_below (by (with_reducible repeat (first | apply Kd.S_alloc | apply Kd.S_drewN | apply Kd.S_drew)); exact HO_521002.out) hb); have n1_ := Aside0.mk (blk_below (g := gb509) (o := .cells #[.int .i64 x510000_2, .int .i64 x510001_2, .slice none 0 0] 27 (0, 0)) (by (with_reducible repeat (first | refine blk_drewN ?_ _ | refine blk_drew ?_ | refine blk_alloc ?_ _)); exact BK509.out) hb); have n2_ := Aside0.mk (blk_below (g := gb520) (o := .cells #[.int .i64 (rd t514 0), .int .i64 (rd t514 1), .slice Ao56 x521002_2.length co56] 27 (0, 0)) (by (with_reducible repeat (first | refine blk_drewN ?_ _ | refine blk_drew ?_ | refine blk_alloc ?_ _)); exact BK520.out) hb); have n3_ := Aside0.mk (below_step (by repeat (first | (with_reducible first | exact HB.out | apply below_alloc | apply pw_below_drewN | apply below_drew1 | refine below_set ?_ GE509.out | refine below_set ?_ GE520.out) | exact HB.out)) hb); clear HO_521002; clear BK509; clear BK520; clear HB; have HO_521002 := n0_; have BK509 := n1_; have BK520 := n2_; have HB := n3_; clear n0_ n1_ n2_ n3_; (try clear hb); (try clear hb2); (try clear hk); (try clear hi); have hcz58_0 : w57.cell? ⟨gb509, 0, none⟩ = some (.int .i64 x510000_2) := (blk_cell BK509.out 0).trans rfl; have hcz58_1 : w57.cell? ⟨gb509, 1, none⟩ = some (.int .i64 x510001_2) := (blk_cell BK509.out 1).trans rfl; have hcz58_2 : w57.cell? ⟨gb509, 2, none⟩ = some (.slice none 0 0) := (blk_cell BK509.out 2).trans rfl; have hfz58_0 := blk_frozen BK509.out 0; have hfz58_1 := blk_frozen BK509.out 1; have hfz58_2 := blk_frozen BK509.out 2))
              refine bodyPost_ret (results_ct rfl _ _ gb509 27 #[.int .i64 0, .int .i64 0, .slice none 0 0] (0, 0) _ rfl (by (with_reducible repeat (first | refine blk_drewN ?_ _ | refine blk_drew ?_ | refine blk_alloc ?_ _)); refine blk_put (cs := #[.int .i64 0, .int .i64 0, .slice none 0 0]) ?_ 2 _ rfl; (with_reducible repeat (first | refine blk_drewN ?_ _ | refine blk_drew ?_ | refine blk_alloc ?_ _)); refine blk_put (cs := #[.int .i64 0, .int .i64 x510001_2, .slice none 0 0]) ?_ 1 _ rfl; (with_reducible repeat (first | refine blk_drewN ?_ _ | refine blk_drew ?_ | refine blk_alloc ?_ _)); refine blk_put (cs := #[.int .i64 x510000_2, .int .i64 x510001_2, .slice none 0 0]) ?_ 0 _ rfl; (with_reducible repeat (first | refine blk_drewN ?_ _ | refine blk_drew ?_ | refine blk_alloc ?_ _)); exact BK509.out) Tryd.underlying27 rfl (by kernel_rfl)) rfl ?_
              exact ⟨_, by first | rfl | (simp [errW_none, errW_some] <;> rfl) | (simp only [← hji19]; first | rfl | (simp [errW_none, errW_some] <;> rfl)) | (simp [*, errW_none, errW_some] <;> rfl), by first | exact Kd.S_nil _ _ _ _ _ | exact Kd.N_nil _ _ _ _ _ | exact Kd.V_nil _ _ _ _ _ | exact Kd.Q_nil _ _ _ _ _ | exact Kd.R_nil _ _ _ _ _, by repeat (first | (with_reducible first | exact HB.out | apply below_alloc | apply pw_below_drewN | apply below_drew1 | refine below_set ?_ GE509.out | refine below_set ?_ GE520.out) | exact HB.out)⟩
         ·rw [if_neg c21] at H
          exact absurd H (by simp)
        ·rw [if_neg c20] at H
         exact absurd H (by simp)
       ·rw [if_neg c18] at H
        exact absurd H (by simp)
      ·rw [if_neg c17] at H
       exact absurd H (by simp)
  ·rw [if_neg c6] at H
   exact absurd H (by simp)
def laws_markInt64S.l0 : Nat → List Int → Int → Int → Option (Int × List Int)
 | 0, _, _, _ => none
 | k + 1, x0, x1, x5 => if x5 < (x0.length : Int) then (if 0 ≤ x5 then (laws_markInt64S.l0 k (x0.set (x5 : Int).toNat x1) (wrap64 (x1 + 1)) (wrap64 (x5 + 1))) else (none)) else (some (x1, x0))
def laws_markInt64S.f (k : Nat) (l0 : List Int) (a1 : Int) : Option (Int × List Int) := laws_markInt64S.l0 k l0 a1 0
set_option maxHeartbeats 8000000 in
set_option maxRecDepth 100000 in
theorem laws_markInt64S.calls (k : Nat) (P0_ : Nat → Prop) (u9000_ : Value) (l0 : List Int) (a1 : Int) (r1 : Int) (r2 : List Int) (w0 w : World) (hB : Below w0.heap.size w0 w) (ho0 : Kd.R (Kd.int .i64) 2 w w0.heap.size P0_ u9000_ l0) (h : laws_markInt64S.f k l0 a1 = some (r1, r2)) :
  Calls Tryd.prog 100 #[u9000_, .int .i64 a1] w fun e w' => e = .returned (.int .i64 r1) ∧ Kd.R (Kd.int .i64) 2 w' w0.heap.size (fun k_ => (P0_ k_ ∨ w.heap.size ≤ k_)) u9000_ r2 ∧ Below w0.heap.size w0 w' ∧ Kept w w' (fun k_ => P0_ k_) := by
 have HO0 := Aside0.mk (show Kd.R (Kd.int .i64) 2 w w0.heap.size (fun k_ => (P0_ k_ ∨ w.heap.size ≤ k_)) u9000_ l0 from Kd.R_mono ho0 (fun k_ hk => (.inl hk)))
 have HK := Aside0.mk (Kept.refl w (fun k_ => P0_ k_))
 have HW0 := Aside0.mk hB.size
 have HB := Aside0.mk hB
 clear hB
 have H : (laws_markInt64S.l0 k l0 a1 0) = some (r1, r2) := h
 clear h
 have H' := Aside0.mk H
 clear H
 go_enter Tryd.func100, Tryd.ntmps100
 go_wp2
 go_loopg [1, 5] k (fun kq v1 v5 w' => ∃ (x0_1 : List Int) (x1_1 : Int) (x5_1 : Int), v1 = .int .i64 x1_1 ∧ v5 = .int .i64 x5_1 ∧ Aside0 (laws_markInt64S.l0 kq x0_1 x1_1 x5_1 = some (r1, r2)) ∧ Aside0 (kq ≤ k) ∧ Aside0 (Kd.R (Kd.int .i64) 2 w' w0.heap.size (fun k_ => (P0_ k_ ∨ w.heap.size ≤ k_)) u9000_ x0_1) ∧ Aside0 (Kept w w' (fun k_ => P0_ k_)) ∧ Aside0 (Below w0.heap.size w0 w'))
 case atStart => exact ⟨(l0), (a1), (0), (by first | rfl | (simp; done) | (simp [*]; done)), (by first | rfl | (simp; done) | (simp [*]; done)), H', ⟨Nat.le_refl _⟩, ⟨by (with_reducible repeat (first | apply Kd.R_alloc | apply Kd.R_drewN | apply Kd.R_drew)); exact HO0.out⟩, ⟨by repeat (first | (with_reducible first | exact HK.out | apply Kept.alloc | apply Kept.drewN | apply Kept.drew) | exact HK.out)⟩, ⟨by repeat (first | (with_reducible first | exact HB.out | apply below_alloc | apply pw_below_drewN | apply below_drew1) | exact HB.out)⟩⟩
 case round =>
  clear H'
  try clear c1
  try clear p2
  obtain ⟨x0_1, x1_1, x5_1, rfl, rfl, HA, HK1, HO_0, HK, HB⟩ := hrel
  cases gk with
  | zero => exact absurd HA.out (by simp [laws_markInt64S.l0])
  | succ k1 =>
   have H := HA.out
   clear HA
   simp only [laws_markInt64S.l0] at H
   by_cases c3 : x5_1 < (x0_1.length : Int)
   ·rw [if_pos c3] at H
    have c3b0 : decide (x5_1 < (x0_1.length : Int)) = true := decide_eq_true c3
    clear c3
    by_cases c4 : 0 ≤ x5_1
    ·rw [if_pos c4] at H
     have c4b0 : decide (0 ≤ x5_1) = true := decide_eq_true c4
     clear c4
     obtain ⟨y475, hy475⟩ : ∃ y_ : List Int, y_ = (x0_1.set (x5_1 : Int).toNat x1_1) := ⟨_, rfl⟩
     replace H : (laws_markInt64S.l0 k1 y475 (wrap64 (x1_1 + 1)) (wrap64 (x5_1 + 1))) = some (r1, r2) := by first | (rw [hy475]; with_reducible exact H) | (have H2_ := (Option.bind_some _ _).symm.trans H; rw [hy475]; with_reducible exact H2_) | (have H2_ := (Option.bind_some _ _).symm.trans H; with_reducible exact H2_) | with_reducible exact H | (rw [hy475]; exact H) | exact H
     have Ny475 := Aside0.mk hy475
     clear hy475
     have H' := Aside0.mk H
     clear H
     obtain ⟨Ao6, co6, eo6⟩ := Kd.R_slice HO_0.out
     subst eo6
     have p5 : 0 ≤ (x5_1 : Int) := of_decide_eq_true (by first | (with_reducible assumption) | assumption)
     have q5 : (x5_1 : Int) < ((x0_1.length : Int) : Int) := of_decide_eq_true (by first | (with_reducible assumption) | assumption)
     obtain ⟨go5, co5, eo5, gb5, gl5, cl5, HG5⟩ := Kd.R_form HO_0.out (by omega)
     (first | cases eo5 | (injection eo5 with ea_ en_ ec_; (first | subst ea_ | (injection ea_ with ea_; subst ea_)); subst ec_; clear en_))
     have GB5 := Aside0.mk gb5
     have GG5 := Aside0.mk HG5
     clear gb5 gl5 HG5
     have HMgo5 := Aside0.mk (show (P0_ go5 ∨ w.heap.size ≤ go5) from (HO_0.out.1 _ rfl))
     obtain ⟨hx5_0, hf5_0⟩ := Kd.R_celln 0 HO_0.out (x5_1 : Int) p5 q5
     replace p5 := eq_true p5
     replace q5 := eq_true q5
     have HP7 := Kd.R_putg HO_0.out (x5_1 : Int) x1_1
     go_wp2_with (first | ((with_reducible refine gate_store (t := 2) (p := 15) rfl ?_); refine store_event (t := 2) (p := 15) (v := ?vo_w8) (w1 := (wr.setCell ⟨go5, (x5_1 : Int).toNat, none⟩ (.int .i64 x1_1))) ?hg ?ho ?hn ?hr ?_; (case ho => rfl); (case hg => rfl); (case hn => rfl); (case hr => first | (go_simp; done) | (go_simp; rfl)); intro w8 hw; have hg : wr.grownBy w8 (some go5) := (by rw [hw]; exact HP7.2); have hp_ : Kd.R (Kd.int .i64) 2 w8 w0.heap.size (fun k_ => (P0_ k_ ∨ w.heap.size ≤ k_)) (.slice (some ⟨go5, 0, none⟩) x0_1.length co6) y475 := (by rw [hw, Ny475.out]; exact HP7.1); clear HP7; have n0_ := Aside0.mk (hp_); have n1_ := Aside0.mk ((by rw [hw]; exact below_set (HB.out) GB5.out : Below w0.heap.size w0 w8)); have n2_ := Aside0.mk (Kept.of_grown (S := (fun k_ => P0_ k_)) hg (by repeat (first | (with_reducible first | exact HK.out | apply Kept.alloc | apply Kept.drewN | apply Kept.drew) | exact HK.out)) (fun k_ e_ => (HO_0.out.1 k_ e_))); clear HO_0; clear HB; clear HK; have HO_0 := n0_; have HB := n1_; have HK := n2_; clear n0_ n1_ n2_; clear hg hw hp_))
     go_roundg k1
     case measure => have := HK1.out; omega
     case rel => exact ⟨(y475), (wrap64 (x1_1 + 1)), (wrap64 (x5_1 + 1)), (by first | rfl | (simp; done) | (simp [*]; done)), (by first | rfl | (simp; done) | (simp [*]; done)), H', ⟨by have := HK1.out; omega⟩, ⟨by (with_reducible repeat (first | apply Kd.R_alloc | apply Kd.R_drewN | apply Kd.R_drew)); exact HO_0.out⟩, ⟨by repeat (first | (with_reducible first | exact HK.out | apply Kept.alloc | apply Kept.drewN | apply Kept.drew) | exact HK.out)⟩, ⟨by repeat (first | (with_reducible first | exact HB.out | apply below_alloc | apply pw_below_drewN | apply below_drew1) | exact HB.out)⟩⟩
    ·rw [if_neg c4] at H
     exact absurd H (by simp)
   ·rw [if_neg c3] at H
    have c3b0 : decide (x5_1 < (x0_1.length : Int)) = false := decide_eq_false c3
    clear c3
    simp only [Option.some.injEq, Prod.mk.injEq] at H
    obtain ⟨rfl, rfl⟩ := H
    obtain ⟨Ao9, co9, eo9⟩ := Kd.R_slice HO_0.out
    subst eo9
    go_wp2
    go_ret
    exact ⟨by first | rfl | (simp [errW_none, errW_some] <;> rfl) | (simp [*, errW_none, errW_some] <;> rfl), by (with_reducible repeat (first | apply Kd.R_alloc | apply Kd.R_drewN | apply Kd.R_drew)); exact HO_0.out, by repeat (first | (with_reducible first | exact HB.out | apply below_alloc | apply pw_below_drewN | apply below_drew1) | exact HB.out), by repeat (first | (with_reducible first | exact HK.out | apply Kept.alloc | apply Kept.drewN | apply Kept.drew) | exact HK.out)⟩
theorem laws_markInt64S.callsM (k : Nat) (P0_ : Nat → Prop) (u : Value) (l0 : List Int) (a1 : Int) (r1 : Int) (r2 : List Int) (w0 w : World) (hB : Below w0.heap.size w0 w) (ho0 : Kd.R (Kd.int .i64) 2 w w0.heap.size P0_ u l0) (h : laws_markInt64S.f k l0 a1 = some (r1, r2)) :
  Calls Tryd.prog 100 #[u, .int .i64 a1] w fun e w' => e = .returned (.int .i64 r1) ∧ Kd.R (Kd.int .i64) 2 w' w0.heap.size P0_ u r2 ∧ Below w0.heap.size w0 w' ∧ Kept w w' P0_ := by
 refine (laws_markInt64S.calls k P0_ u l0 a1 r1 r2 w0 w hB ho0 h).mono ?_
 rintro e w' ⟨he, hr, hb, hk⟩
 exact ⟨he, Kd.R_reok rfl hr (fun k_ e_ => ho0.1 k_ e_), hb, hk⟩
def laws_markInt64SS.l0 : Nat → List (List Int) → Int → Int → Option (Int × List (List Int))
 | 0, _, _, _ => none
 | k + 1, xs, m, i => if i < (xs.length : Int) then (if 0 ≤ i then ((laws_markInt64S.f k (rd_L1 xs i) m).bind fun t => laws_markInt64SS.l0 k (xs.set i.toNat t.2) t.1 (wrap64 (i + 1))) else none) else some (m, xs)
def laws_markInt64SS.f (k : Nat) (l0 : List (List Int)) (a1 : Int) : Option (Int × List (List Int)) := laws_markInt64SS.l0 k l0 a1 0
set_option maxHeartbeats 8000000 in
set_option maxRecDepth 100000 in
theorem laws_markInt64SS.callsM (k : Nat) (P0_ : Nat → Prop) (u : Value) (l0 : List (List Int)) (a1 : Int) (r1 : Int) (r2 : List (List Int)) (w0 w : World) (hB : Below w0.heap.size w0 w) (ho0 : Kd.S (Kd.slice 2 (Kd.int .i64)) 65 w w0.heap.size P0_ u l0) (h : laws_markInt64SS.f k l0 a1 = some (r1, r2)) :
  Calls Tryd.prog 65 #[u, .int .i64 a1] w fun e w' => e = .returned (.int .i64 r1) ∧ Kd.S (Kd.slice 2 (Kd.int .i64)) 65 w' w0.heap.size P0_ u r2 ∧ Below w0.heap.size w0 w' ∧ Kept w w' P0_ := by
 obtain ⟨Ao, co, rfl⟩ := Kd.S_slice ho0
 have HO := Aside0.mk ho0
 have HB := Aside0.mk hB
 have HK := Aside0.mk (Kept.refl w P0_)
 have H' := Aside0.mk h
 clear ho0 hB h
 go_enter Tryd.func65, Tryd.ntmps65
 go_wp2
 go_loopg [1, 5] k (fun kq v1 v5 w' => ∃ (x1 x5 : Int) (xs : List (List Int)), v1 = .int .i64 x1 ∧ v5 = .int .i64 x5 ∧ Aside0 (laws_markInt64SS.l0 kq xs x1 x5 = some (r1, r2)) ∧ Aside0 (kq ≤ k) ∧ Aside0 (Kd.S (Kd.slice 2 (Kd.int .i64)) 65 w' w0.heap.size P0_ (.slice Ao l0.length co) xs) ∧ Aside0 (Below w0.heap.size w0 w') ∧ Aside0 (Kept w w' P0_))
 case atStart => exact ⟨a1, 0, l0, rfl, rfl, H', ⟨Nat.le_refl _⟩, HO, HB, HK⟩
 case round =>
  clear H' HB HK HO
  obtain ⟨x1, x5, xs, rfl, rfl, HA, HK1, HO, HB, HK⟩ := hrel
  cases gk with
  | zero => exact absurd HA.out (by simp [laws_markInt64SS.l0])
  | succ k1 =>
   have H := HA.out
   clear HA
   simp only [laws_markInt64SS.l0] at H
   have hlen := (Kd.S_reads' HO.out).1
   by_cases c6 : x5 < (xs.length : Int)
   ·rw [if_pos c6] at H
    have c6b0 : decide (x5 < (l0.length : Int)) = true := decide_eq_true (by omega)
    by_cases c7 : 0 ≤ x5
    ·rw [if_pos c7] at H
     have c7b0 : decide (0 ≤ x5) = true := decide_eq_true c7
     replace H := Option.bind_eq_some_iff.mp H
     obtain ⟨⟨t1, t2⟩, At, H⟩ := H
     have A3 := Aside0.mk At
     have H' := Aside0.mk H
     clear At H
     obtain ⟨g, cap, eo, hg0, hg1, _⟩ := Kd.S_form HO.out (by omega)
     injection eo with ea_ en_ ec_
     subst ea_
     obtain ⟨oki, c, hcl, hM, hcc, hoki, hH⟩ := Kd.S_lend HO.out ([] : List Int) x5 c7 (by omega)
     obtain ⟨v1, rfl, hR⟩ := hM
     have hx := hcc 0 _ rfl
     simp only [show (Kd.slice 2 (Kd.int .i64)).sz = 1 from rfl, Nat.mul_one, Nat.add_zero] at hx
     obtain ⟨Ae, ce, rfl⟩ := Kd.R_slice hR
     have HR := Aside0.mk hR
     have HH := Aside0.mk hH
     have HOK := Aside0.mk hoki
     have p6 : (x5 < (l0.length : Int)) = True := eq_true (by omega)
     have p7 := eq_true c7
     clear hR hH hoki hcc hcl hg0 hg1 en_ ec_ c6 c7 hlen
     go_wp2_with (first | (go_at_call 100; (refine (laws_markInt64S.callsM k1 oki _ (xs.getD x5.toNat []) x1 t1 t2 w0 _ ?side1 ?side2 A3.out).mono ?_); (case side1 => exact HB.out); (case side2 => exact HR.out); rintro e w' ⟨rfl, hr, hb, hk⟩))
     go_roundg k1
     case measure => have := HK1.out; omega
     case rel => exact ⟨t1, _, xs.set x5.toNat t2, rfl, rfl, H', ⟨by have := HK1.out; omega⟩, ⟨Kd.H_back (Kd.H_kept HH.out hk (fun k_ _ hn => hn)) ⟨_, rfl, hr⟩ (fun _ h => h)⟩, ⟨hb⟩, ⟨Kept.then_ HK.out hk (fun k_ h_ => .inl (HOK.out k_ h_).1)⟩⟩
    ·rw [if_neg c7] at H
     exact absurd H (by simp)
   ·rw [if_neg c6] at H
    have c6b0 : decide (x5 < (l0.length : Int)) = false := decide_eq_false (by omega)
    clear c6 hlen
    injection H with H
    injection H with e1 e2
    subst e1 e2
    go_wp2
    go_ret
    exact ⟨rfl, HO.out, HB.out, HK.out⟩
def laws_markMatrix.f (k : Nat) (a0_0 : Int) (a0_1 : Int) (l0_2 : List (List Int)) (a1 : Int) : Option (Int × List (List Int)) := laws_markInt64SS.f k l0_2 a1
set_option maxHeartbeats 8000000 in
set_option maxRecDepth 100000 in
theorem laws_markMatrix.callsM (k : Nat) (a0_0 : Int) (a0_1 : Int) (P0_ : Nat → Prop) (u : Value) (l0_2 : List (List Int)) (a1 : Int) (r1 : Int) (r2 : List (List Int)) (w0 w : World) (hB : Below w0.heap.size w0 w) (ho0 : Kd.S (Kd.slice 2 (Kd.int .i64)) 65 w w0.heap.size P0_ u l0_2) (h : laws_markMatrix.f k a0_0 a0_1 l0_2 a1 = some (r1, r2)) :
  Calls Tryd.prog 30 #[.agg #[.int .i64 a0_0, .int .i64 a0_1, u], .int .i64 a1] w fun e w' => e = .returned (.int .i64 r1) ∧ Kd.S (Kd.slice 2 (Kd.int .i64)) 65 w' w0.heap.size P0_ u r2 ∧ Below w0.heap.size w0 w' ∧ Kept w w' P0_ := by
 have hum := Tryd.underlying27
 obtain ⟨Ao, co, rfl⟩ := Kd.S_slice ho0
 have HO := Aside0.mk ho0
 have HB := Aside0.mk hB
 have A3 := Aside0.mk (show laws_markInt64SS.f k _ a1 = some (r1, r2) from h)
 clear ho0 hB h
 go_enter Tryd.func30, Tryd.ntmps30
 go_wp2_with (first | (go_at_call 65; (with_reducible refine (laws_markInt64SS.callsM k P0_ _ l0_2 a1 r1 r2 w0 _ ?side1 ?side2 A3.out).mono ?_); (case side1 => repeat (first | (with_reducible first | exact HB.out | apply below_alloc | apply pw_below_drewN | apply below_drew1) | exact HB.out)); (case side2 => (with_reducible repeat (first | apply Kd.S_alloc | apply Kd.S_drewN | apply Kd.S_drew)); exact HO.out); rintro e w' ⟨rfl, hr, hb, hk⟩))
 go_ret
 exact ⟨rfl, hr, hb, Kept.then_ (by repeat (first | exact Kept.refl _ _ | apply Kept.alloc | apply Kept.drewN | apply Kept.drew)) hk (fun _ h => .inl h)⟩
def laws_heldInt64S.l0 : Nat → List Int → Int → Int → Option (Int)
 | 0, _, _, _ => none
 | k + 1, x0, x1, x5 => if x5 < (x0.length : Int) then (if 0 ≤ x5 then (if (rd x0 x5) = x1 then (laws_heldInt64S.l0 k x0 (wrap64 (x1 + 1)) (wrap64 (x5 + 1))) else (some (-1))) else (none)) else (some x1)
def laws_heldInt64S.f (k : Nat) (l0 : List Int) (a1 : Int) : Option (Int) := laws_heldInt64S.l0 k l0 a1 0
set_option maxHeartbeats 8000000 in
set_option maxRecDepth 100000 in
theorem laws_heldInt64S.calls (k : Nat) (A0 : Option Addr) (c0 : Nat) (l0 : List Int) (a1 : Int) (r : Int) (w : World) (hr0 : Kd.C (Kd.int .i64) w A0 l0.length l0) (hc0 : l0.length ≤ c0) (h : laws_heldInt64S.f k l0 a1 = some r) :
  Calls Tryd.prog 101 #[.slice A0 l0.length c0, .int .i64 a1] w fun e w' => e = .returned (.int .i64 r) ∧ Drawn0 w w' := by
 have HR0 := Aside0.mk hr0
 have HC0 := Aside0.mk hc0
 clear hr0 hc0
 have H : (laws_heldInt64S.l0 k l0 a1 0) = some r := h
 clear h
 have H' := Aside0.mk H
 clear H
 go_enter Tryd.func101, Tryd.ntmps101
 go_wp2
 go_loopg [1, 5] k (fun kq v1 v5 w' => ∃ (x1_1 : Int) (x5_1 : Int), v1 = .int .i64 x1_1 ∧ v5 = .int .i64 x5_1 ∧ Aside0 (laws_heldInt64S.l0 kq l0 x1_1 x5_1 = some r) ∧ Aside0 (kq ≤ k) ∧ Drawn0 w w')
 case atStart => exact ⟨(a1), (0), (by first | rfl | (simp; done) | (simp [*]; done)), (by first | rfl | (simp; done) | (simp [*]; done)), H', ⟨Nat.le_refl _⟩, by repeat (first | exact Drawn0.refl _ | apply Drawn0.step)⟩
 case round =>
  clear H'
  try clear c1
  try clear p2
  obtain ⟨x1_1, x5_1, rfl, rfl, HA, HK1, ⟨m1, rfl⟩⟩ := hrel
  cases gk with
  | zero => exact absurd HA.out (by simp [laws_heldInt64S.l0])
  | succ k1 =>
   have H := HA.out
   clear HA
   simp only [laws_heldInt64S.l0] at H
   by_cases c3 : x5_1 < (l0.length : Int)
   ·rw [if_pos c3] at H
    have c3b0 : decide (x5_1 < (l0.length : Int)) = true := decide_eq_true c3
    clear c3
    by_cases c4 : 0 ≤ x5_1
    ·rw [if_pos c4] at H
     have c4b0 : decide (0 ≤ x5_1) = true := decide_eq_true c4
     clear c4
     by_cases c5 : (rd l0 x5_1) = x1_1
     ·rw [if_pos c5] at H
      have c5b0 : ((rd l0 x5_1) == x1_1) = true := beq_iff_eq.mpr c5
      have c5b1 : ((rd l0 x5_1) != x1_1) = false := bne_eq_false_iff_eq.mpr c5
      clear c5
      have H' := Aside0.mk H
      clear H
      have p476 : 0 ≤ (x5_1 : Int) := of_decide_eq_true (by first | (with_reducible assumption) | assumption)
      have q476 : x5_1 < (l0.length : Int) := of_decide_eq_true (by first | (with_reducible assumption) | assumption)
      obtain ⟨ad476, e476, hx476_0⟩ := Kd.at_int HR0.out x5_1 p476 q476
      cases e476
      replace p476 := eq_true p476
      replace q476 := eq_true q476
      go_wp2
      go_roundg k1
      case measure => have := HK1.out; omega
      case rel => exact ⟨(wrap64 (x1_1 + 1)), (wrap64 (x5_1 + 1)), (by first | rfl | (simp; done) | (simp [*]; done)), (by first | rfl | (simp; done) | (simp [*]; done)), H', ⟨by have := HK1.out; omega⟩, by repeat (first | exact Drawn0.refl _ | apply Drawn0.step)⟩
     ·rw [if_neg c5] at H
      have c5b0 : ((rd l0 x5_1) == x1_1) = false := beq_eq_false_iff_ne.mpr c5
      have c5b1 : ((rd l0 x5_1) != x1_1) = true := bne_iff_ne.mpr c5
      obtain rfl := Option.some.inj H
      have p476 : 0 ≤ (x5_1 : Int) := of_decide_eq_true (by first | (with_reducible assumption) | assumption)
      have q476 : x5_1 < (l0.length : Int) := of_decide_eq_true (by first | (with_reducible assumption) | assumption)
      obtain ⟨ad476, e476, hx476_0⟩ := Kd.at_int HR0.out x5_1 p476 q476
      cases e476
      replace p476 := eq_true p476
      replace q476 := eq_true q476
      go_wp2
      go_ret
      exact ⟨by first | rfl | (simp; done) | (simp [*]; done), by repeat (first | exact Drawn0.refl _ | apply Drawn0.step)⟩
    ·rw [if_neg c4] at H
     exact absurd H (by simp)
   ·rw [if_neg c3] at H
    have c3b0 : decide (x5_1 < (l0.length : Int)) = false := decide_eq_false c3
    clear c3
    obtain rfl := Option.some.inj H
    go_wp2
    go_ret
    exact ⟨by first | rfl | (simp; done) | (simp [*]; done), by repeat (first | exact Drawn0.refl _ | apply Drawn0.step)⟩
def laws_heldInt64SS.l0 : Nat → List (List Int) → Int → Int → Option (Int)
 | 0, _, _, _ => none
 | k + 1, x0, x1, x5 => if x5 < (x0.length : Int) then (if 0 ≤ x5 then ((laws_heldInt64S.f k (rd_L1 x0 x5) x1).bind fun t478 => (if t478 < 0 then (some (-1)) else (laws_heldInt64SS.l0 k x0 t478 (wrap64 (x5 + 1))))) else (none)) else (some x1)
def laws_heldInt64SS.f (k : Nat) (l0 : List (List Int)) (a1 : Int) : Option (Int) := laws_heldInt64SS.l0 k l0 a1 0
set_option maxHeartbeats 8000000 in
set_option maxRecDepth 100000 in
theorem laws_heldInt64SS.calls (k : Nat) (A0 : Option Addr) (c0 : Nat) (l0 : List (List Int)) (a1 : Int) (r : Int) (w : World) (hr0 : Kd.C (Kd.slice 2 (Kd.int .i64)) w A0 l0.length l0) (hc0 : l0.length ≤ c0) (h : laws_heldInt64SS.f k l0 a1 = some r) :
  Calls Tryd.prog 66 #[.slice A0 l0.length c0, .int .i64 a1] w fun e w' => e = .returned (.int .i64 r) ∧ Drawn0 w w' := by
 have HR0 := Aside0.mk hr0
 have HC0 := Aside0.mk hc0
 clear hr0 hc0
 have H : (laws_heldInt64SS.l0 k l0 a1 0) = some r := h
 clear h
 have H' := Aside0.mk H
 clear H
 go_enter Tryd.func66, Tryd.ntmps66
 go_wp2
 go_loopg [1, 5] k (fun kq v1 v5 w' => ∃ (x1_1 : Int) (x5_1 : Int), v1 = .int .i64 x1_1 ∧ v5 = .int .i64 x5_1 ∧ Aside0 (laws_heldInt64SS.l0 kq l0 x1_1 x5_1 = some r) ∧ Aside0 (kq ≤ k) ∧ Drawn0 w w')
 case atStart => exact ⟨(a1), (0), (by first | rfl | (simp; done) | (simp [*]; done)), (by first | rfl | (simp; done) | (simp [*]; done)), H', ⟨Nat.le_refl _⟩, by repeat (first | exact Drawn0.refl _ | apply Drawn0.step)⟩
 case round =>
  clear H'
  try clear p2
  obtain ⟨x1_1, x5_1, rfl, rfl, HA, HK1, ⟨m1, rfl⟩⟩ := hrel
  cases gk with
  | zero => exact absurd HA.out (by simp [laws_heldInt64SS.l0])
  | succ k1 =>
   have H := HA.out
   clear HA
   simp only [laws_heldInt64SS.l0] at H
   by_cases c3 : x5_1 < (l0.length : Int)
   ·rw [if_pos c3] at H
    have c3b0 : decide (x5_1 < (l0.length : Int)) = true := decide_eq_true c3
    clear c3
    by_cases c4 : 0 ≤ x5_1
    ·rw [if_pos c4] at H
     have c4b0 : decide (0 ≤ x5_1) = true := decide_eq_true c4
     clear c4
     replace H := Option.bind_eq_some_iff.mp H
     obtain ⟨t478, A50, H⟩ := H
     replace H : (if t478 < 0 then (some (-1)) else (laws_heldInt64SS.l0 k1 l0 t478 (wrap64 (x5_1 + 1)))) = some r := H
     have A5 := Aside0.mk A50
     clear A50
     by_cases c6 : t478 < 0
     ·rw [if_pos c6] at H
      have c6b0 : decide (t478 < 0) = true := decide_eq_true c6
      clear c6
      obtain rfl := Option.some.inj H
      have p477 : 0 ≤ (x5_1 : Int) := of_decide_eq_true (by first | (with_reducible assumption) | assumption)
      have q477 : x5_1 < (l0.length : Int) := of_decide_eq_true (by first | (with_reducible assumption) | assumption)
      obtain ⟨ad477, A477_0, c477_0, e477, hx477_0, hl477_0, hi477_0⟩ := at_L1 HR0.out x5_1 p477 q477
      cases e477
      have HR477_0 := Aside0.mk hi477_0
      have HC477_0 := Aside0.mk hl477_0
      clear hi477_0 hl477_0
      replace p477 := eq_true p477
      replace q477 := eq_true q477
      go_wp2_with (first | ((with_reducible refine gate_callee (f := 101) rfl ?_); refine goesL_ (some 17) rfl rfl Tryd.func101 (by kernel_rfl) rfl #[.slice A477_0 (rd_L1 l0 x5_1).length c477_0, .int .i64 x1_1] rfl (by (try simp only [List.map_toArray, List.map_cons, List.map_nil]); first | done | rfl | (simp only [List.length_drop, List.length_take]; rfl)) ?_; (with_reducible refine (laws_heldInt64S.calls k1 _ _ (rd_L1 l0 x5_1) x1_1 t478 _ ?side1 ?side2 A5.out).mono ?_); (case side1 => repeat (first | exact HR477_0.out | (with_reducible refine Kd.C_alloc ?_ _) | (with_reducible refine Kd.C_drewN ?_ _) | (with_reducible refine Kd.C_drew ?_))); (case side2 => exact HC477_0.out); rintro e w' ⟨rfl, ⟨nd, rfl⟩⟩; refine ⟨_, rfl, ?_⟩))
      go_ret
      exact ⟨by first | rfl | (simp; done) | (simp [*]; done), by repeat (first | exact Drawn0.refl _ | apply Drawn0.step)⟩
     ·rw [if_neg c6] at H
      have c6b0 : decide (t478 < 0) = false := decide_eq_false c6
      clear c6
      have H' := Aside0.mk H
      clear H
      have p477 : 0 ≤ (x5_1 : Int) := of_decide_eq_true (by first | (with_reducible assumption) | assumption)
      have q477 : x5_1 < (l0.length : Int) := of_decide_eq_true (by first | (with_reducible assumption) | assumption)
      obtain ⟨ad477, A477_0, c477_0, e477, hx477_0, hl477_0, hi477_0⟩ := at_L1 HR0.out x5_1 p477 q477
      cases e477
      have HR477_0 := Aside0.mk hi477_0
      have HC477_0 := Aside0.mk hl477_0
      clear hi477_0 hl477_0
      replace p477 := eq_true p477
      replace q477 := eq_true q477
      go_wp2_with (first | ((with_reducible refine gate_callee (f := 101) rfl ?_); refine goesL_ (some 17) rfl rfl Tryd.func101 (by kernel_rfl) rfl #[.slice A477_0 (rd_L1 l0 x5_1).length c477_0, .int .i64 x1_1] rfl (by (try simp only [List.map_toArray, List.map_cons, List.map_nil]); first | done | rfl | (simp only [List.length_drop, List.length_take]; rfl)) ?_; (with_reducible refine (laws_heldInt64S.calls k1 _ _ (rd_L1 l0 x5_1) x1_1 t478 _ ?side1 ?side2 A5.out).mono ?_); (case side1 => repeat (first | exact HR477_0.out | (with_reducible refine Kd.C_alloc ?_ _) | (with_reducible refine Kd.C_drewN ?_ _) | (with_reducible refine Kd.C_drew ?_))); (case side2 => exact HC477_0.out); rintro e w' ⟨rfl, ⟨nd, rfl⟩⟩; refine ⟨_, rfl, ?_⟩))
      go_roundg k1
      case measure => have := HK1.out; omega
      case rel => exact ⟨(t478), (wrap64 (x5_1 + 1)), (by first | rfl | (simp; done) | (simp [*]; done)), (by first | rfl | (simp; done) | (simp [*]; done)), H', ⟨by have := HK1.out; omega⟩, by repeat (first | exact Drawn0.refl _ | apply Drawn0.step)⟩
    ·rw [if_neg c4] at H
     exact absurd H (by simp)
   ·rw [if_neg c3] at H
    have c3b0 : decide (x5_1 < (l0.length : Int)) = false := decide_eq_false c3
    clear c3
    obtain rfl := Option.some.inj H
    go_wp2
    go_ret
    exact ⟨by first | rfl | (simp; done) | (simp [*]; done), by repeat (first | exact Drawn0.refl _ | apply Drawn0.step)⟩
def laws_heldMatrix.f (k : Nat) (a0_0 : Int) (a0_1 : Int) (l0_2 : List (List Int)) (a1 : Int) : Option (Int) := (laws_heldInt64SS.f k l0_2 a1).bind fun t480 => (if t480 < 0 then (some (-1)) else (some t480))
set_option maxHeartbeats 8000000 in
set_option maxRecDepth 100000 in
theorem laws_heldMatrix.calls (k : Nat) (a0_0 : Int) (a0_1 : Int) (A0_2 : Option Addr) (c0_2 : Nat) (l0_2 : List (List Int)) (a1 : Int) (r : Int) (w : World) (hr0_2 : Kd.C (Kd.slice 2 (Kd.int .i64)) w A0_2 l0_2.length l0_2) (hc0_2 : l0_2.length ≤ c0_2) (h : laws_heldMatrix.f k a0_0 a0_1 l0_2 a1 = some r) :
  Calls Tryd.prog 31 #[.agg #[.int .i64 a0_0, .int .i64 a0_1, .slice A0_2 l0_2.length c0_2], .int .i64 a1] w fun e w' => e = .returned (.int .i64 r) ∧ Below w.heap.size w w' := by
 have hu27 := Tryd.underlying27
 have HR0_2 := Aside0.mk hr0_2
 have HC0_2 := Aside0.mk hc0_2
 clear hr0_2 hc0_2
 have HB := Aside0.mk (Below.refl w.heap.size w)
 have H : ((laws_heldInt64SS.f k l0_2 a1).bind fun t480 => (if t480 < 0 then (some (-1)) else (some t480))) = some r := h
 clear h
 replace H := Option.bind_eq_some_iff.mp H
 obtain ⟨t480, A30, H⟩ := H
 replace H : (if t480 < 0 then (some (-1)) else (some t480)) = some r := H
 have A3 := Aside0.mk A30
 clear A30
 by_cases c4 : t480 < 0
 ·rw [if_pos c4] at H
  have c4b0 : decide (t480 < 0) = true := decide_eq_true c4
  clear c4
  obtain rfl := Option.some.inj H
  go_enter Tryd.func31, Tryd.ntmps31
  go_wp2_with (first | ((with_reducible refine gate_dst (N := 2) rfl ?_); refine box_event ?hg (N := 2) ?hd (cs := #[.int .i64 a0_0, .int .i64 a0_1, .slice A0_2 l0_2.length c0_2]) (t := 27) ?hr ?_; (case hd => rfl); (case hg => rfl); (case hr => first | (go_simp; done) | (go_simp; rfl)); intro gb479 hg w5 hbox hb; have n0_ := Aside0.mk (below_step (by repeat (first | (with_reducible first | exact HB.out | apply below_alloc | apply pw_below_drewN | apply below_drew1) | exact HB.out)) hb); have n1_ := Aside0.mk (hbox); have n2_ := Aside0.mk ((by rw [hg]; exact (below_size (by repeat (first | (with_reducible first | exact HB.out | apply below_alloc | apply pw_below_drewN | apply below_drew1) | exact HB.out))) : w.heap.size ≤ gb479)); have n3_ := Aside0.mk ((by rw [hg]; exact (below_size (by repeat (first | (with_reducible first | exact HB.out | apply below_alloc | apply pw_below_drewN | apply below_drew1) | exact HB.out))) : w.heap.size ≤ gb479)); clear HB; have HB := n0_; have BK479 := n1_; have GW479 := n2_; have GE479 := n3_; clear n0_ n1_ n2_ n3_; clear hb hbox hg; have hcz6_0 : w5.cell? ⟨gb479, 0, none⟩ = some (.int .i64 a0_0) := (blk_cell BK479.out 0).trans rfl; have hcz6_1 : w5.cell? ⟨gb479, 1, none⟩ = some (.int .i64 a0_1) := (blk_cell BK479.out 1).trans rfl; have hcz6_2 : w5.cell? ⟨gb479, 2, none⟩ = some (.slice A0_2 l0_2.length c0_2) := (blk_cell BK479.out 2).trans rfl; have hfz6_0 := blk_frozen BK479.out 0; have hfz6_1 := blk_frozen BK479.out 1; have hfz6_2 := blk_frozen BK479.out 2) | ((with_reducible refine gate_callee (f := 66) rfl ?_); refine goesL_ (some 8) rfl rfl Tryd.func66 (by kernel_rfl) rfl #[.slice A0_2 l0_2.length c0_2, .int .i64 a1] rfl (by (try simp only [List.map_toArray, List.map_cons, List.map_nil]); first | done | rfl | (simp only [List.length_drop, List.length_take]; rfl)) ?_; (with_reducible refine (laws_heldInt64SS.calls k _ _ l0_2 a1 t480 _ ?side1 ?side2 A3.out).mono ?_); (case side1 => repeat (first | exact (Kd.C_below HR0_2.out HB.out) | (with_reducible refine Kd.C_alloc ?_ _) | (with_reducible refine Kd.C_drewN ?_ _) | (with_reducible refine Kd.C_drew ?_))); (case side2 => exact HC0_2.out); rintro e w' ⟨rfl, ⟨nd, rfl⟩⟩; refine ⟨_, rfl, ?_⟩))
  go_ret
  exact ⟨by first | rfl | (simp [errW_none, errW_some] <;> rfl) | (simp [*, errW_none, errW_some] <;> rfl), by repeat (first | (with_reducible first | exact HB.out | apply below_alloc | apply pw_below_drewN | apply below_drew1 | refine below_set ?_ GE479.out) | exact HB.out)⟩
 ·rw [if_neg c4] at H
  have c4b0 : decide (t480 < 0) = false := decide_eq_false c4
  clear c4
  obtain rfl := Option.some.inj H
  go_enter Tryd.func31, Tryd.ntmps31
  go_wp2_with (first | ((with_reducible refine gate_dst (N := 2) rfl ?_); refine box_event ?hg (N := 2) ?hd (cs := #[.int .i64 a0_0, .int .i64 a0_1, .slice A0_2 l0_2.length c0_2]) (t := 27) ?hr ?_; (case hd => rfl); (case hg => rfl); (case hr => first | (go_simp; done) | (go_simp; rfl)); intro gb479 hg w7 hbox hb; have n0_ := Aside0.mk (below_step (by repeat (first | (with_reducible first | exact HB.out | apply below_alloc | apply pw_below_drewN | apply below_drew1) | exact HB.out)) hb); have n1_ := Aside0.mk (hbox); have n2_ := Aside0.mk ((by rw [hg]; exact (below_size (by repeat (first | (with_reducible first | exact HB.out | apply below_alloc | apply pw_below_drewN | apply below_drew1) | exact HB.out))) : w.heap.size ≤ gb479)); have n3_ := Aside0.mk ((by rw [hg]; exact (below_size (by repeat (first | (with_reducible first | exact HB.out | apply below_alloc | apply pw_below_drewN | apply below_drew1) | exact HB.out))) : w.heap.size ≤ gb479)); clear HB; have HB := n0_; have BK479 := n1_; have GW479 := n2_; have GE479 := n3_; clear n0_ n1_ n2_ n3_; clear hb hbox hg; have hcz8_0 : w7.cell? ⟨gb479, 0, none⟩ = some (.int .i64 a0_0) := (blk_cell BK479.out 0).trans rfl; have hcz8_1 : w7.cell? ⟨gb479, 1, none⟩ = some (.int .i64 a0_1) := (blk_cell BK479.out 1).trans rfl; have hcz8_2 : w7.cell? ⟨gb479, 2, none⟩ = some (.slice A0_2 l0_2.length c0_2) := (blk_cell BK479.out 2).trans rfl; have hfz8_0 := blk_frozen BK479.out 0; have hfz8_1 := blk_frozen BK479.out 1; have hfz8_2 := blk_frozen BK479.out 2) | ((with_reducible refine gate_callee (f := 66) rfl ?_); refine goesL_ (some 8) rfl rfl Tryd.func66 (by kernel_rfl) rfl #[.slice A0_2 l0_2.length c0_2, .int .i64 a1] rfl (by (try simp only [List.map_toArray, List.map_cons, List.map_nil]); first | done | rfl | (simp only [List.length_drop, List.length_take]; rfl)) ?_; (with_reducible refine (laws_heldInt64SS.calls k _ _ l0_2 a1 t480 _ ?side1 ?side2 A3.out).mono ?_); (case side1 => repeat (first | exact (Kd.C_below HR0_2.out HB.out) | (with_reducible refine Kd.C_alloc ?_ _) | (with_reducible refine Kd.C_drewN ?_ _) | (with_reducible refine Kd.C_drew ?_))); (case side2 => exact HC0_2.out); rintro e w' ⟨rfl, ⟨nd, rfl⟩⟩; refine ⟨_, rfl, ?_⟩))
  go_ret
  exact ⟨by first | rfl | (simp [errW_none, errW_some] <;> rfl) | (simp [*, errW_none, errW_some] <;> rfl), by repeat (first | (with_reducible first | exact HB.out | apply below_alloc | apply pw_below_drewN | apply below_drew1 | refine below_set ?_ GE479.out) | exact HB.out)⟩
theorem blk_new_at {W : World} {o : Obj} {g : Nat} (h : g = W.heap.size) : (W.alloc o).heap[g]? = some o := by rw [h]; exact blk_new W o
theorem calls_as {P : Program} {f : Nat} {us vs : Array Value} {w : World} {Q : Ending → World → Prop} (e : us = vs) (h : Calls P f us w Q) : Calls P f vs w Q := e ▸ h
set_option maxHeartbeats 8000000 in
set_option maxRecDepth 100000 in
theorem laws_FnExactReadMatrix.way0 (k : Nat) (a0 : ByteArray)  (w : World) (hG : Glob w)  (t1 : decide (1048576 < (a0.size : Int)) = true) (t2 : decide (1048576 < a0.size) = true) :
  Calls Tryd.prog 7 #[.string a0] w fun e w' => e = .returned (.bool true) ∧ Below w.heap.size w w' := by
 have HB := Aside0.mk (Below.refl w.heap.size w)
 have HG := Aside0.mk hG
 clear hG
 go_enter Tryd.func7, Tryd.ntmps7
 go_wp2
 go_ret
 exact ⟨rfl, by repeat (first | (with_reducible first | exact HB.out | apply below_alloc | apply pw_below_drewN | apply below_drew1) | exact HB.out)⟩
set_option maxHeartbeats 8000000 in
set_option maxRecDepth 100000 in
theorem laws_FnExactReadMatrix.way1 (k : Nat) (a0 : ByteArray) (r3 : Int) (r4 : Int) (r5 : List (List Int)) (r6 : Int) (m31 : Int) (ys32 : List (List Int)) (w : World) (hG : Glob w)  (t1 : decide (1048576 < (a0.size : Int)) = false) (t2 : decide (1048576 < a0.size) = false) (A7 : spec_ReadMatrix.f k a0 = some (r3, r4, r5, r6)) (A12 : impl_ReadMatrix.f k a0 = some (r3, r4, r5, r6)) (A21 : laws_eqMatrix.f k r3 r4 r5 r3 r4 r5 = some true) (A33 : laws_markMatrix.f k r3 r4 r5 1 = some (m31, ys32)) (A43 : laws_heldMatrix.f k r3 r4 ys32 1 = some m31) (t53 : decide (m31 < 0) = false) (A54 : impl_ReadMatrix.f k a0 = some (r3, r4, r5, r6)) (A67 : laws_eqMatrix.f k r3 r4 r5 r3 r4 r5 = some true) (A81 : laws_heldMatrix.f k r3 r4 ys32 1 = some m31) (t95 : decide (m31 < 0) = false) :
  Calls Tryd.prog 7 #[.string a0] w fun e w' => e = .returned (.bool true) ∧ Below w.heap.size w w' := by
 have hu27 := Tryd.underlying27
 have HB := Aside0.mk (Below.refl w.heap.size w)
 have HG := Aside0.mk hG
 clear hG
 replace A7 := Aside0.mk A7
 replace A12 := Aside0.mk A12
 replace A21 := Aside0.mk A21
 replace A33 := Aside0.mk A33
 replace A43 := Aside0.mk A43
 replace A54 := Aside0.mk A54
 replace A67 := Aside0.mk A67
 replace A81 := Aside0.mk A81
 go_enter Tryd.func7, Tryd.ntmps7
 go_wp2_with (first | ((with_reducible refine gate_callee (f := 28) rfl ?_); refine goesL_ (some 16) rfl rfl Tryd.func28 (by kernel_rfl) rfl #[.string a0] rfl (by (try simp only [List.map_toArray, List.map_cons, List.map_nil]); first | done | rfl | (simp only [List.length_drop, List.length_take]; rfl)) ?_; (with_reducible refine (spec_ReadMatrix.calls k a0 r3 r4 r5 r6 _  A7.out).mono ?_); rintro e w1 ⟨v100_, rfl, ho0_, hb⟩; refine ⟨_, rfl, ?_⟩; have n1_ := Aside0.mk (below_step (by repeat (first | (with_reducible first | exact HB.out | apply below_alloc | apply pw_below_drewN | apply below_drew1) | exact HB.out)) hb); have C8 : Aside0 (w.heap.size ≤ w1.heap.size) := ⟨by have h_ := hb.size; (try simp at h_); omega⟩; have CC := Aside0.mk C8.out; clear HB; have HB := n1_; clear n1_; have HO9 := Aside0.mk (Kd.S_lower (base' := w.heap.size) (Kd.S_mono (Kd.S_bound ho0_) (ok' := fun k_ => w.heap.size ≤ k_ ∧ k_ < w1.heap.size) (fun k_ hk_ => ⟨by have h_ := hk_.2.1; (try simp at h_); omega, hk_.2.2.1⟩)) (by have := CC.out; first | omega | (simp; done) | (simp; omega))); obtain ⟨Az10, cz10, ez10⟩ := Kd.S_slice HO9.out; subst ez10; (try clear hb); (try clear ho0_)) | ((with_reducible refine gate_callee (f := 29) rfl ?_); refine goesL_ (some 21) rfl rfl Tryd.func29 (by kernel_rfl) rfl #[.string a0] rfl (by (try simp only [List.map_toArray, List.map_cons, List.map_nil]); first | done | rfl | (simp only [List.length_drop, List.length_take]; rfl)) ?_; (with_reducible refine (impl_ReadMatrix.calls k a0 r3 r4 r5 r6 _ ?side1 A12.out).mono ?_); (case side1 => exact Glob.below HG.out (by repeat (first | (with_reducible first | exact HB.out | apply below_alloc | apply pw_below_drewN | apply below_drew1) | exact HB.out))); rintro e w2 ⟨v100_, rfl, ho0_, hb⟩; refine ⟨_, rfl, ?_⟩; have n1_ := Aside0.mk (Kd.S_below (by (with_reducible repeat (first | apply Kd.S_alloc | apply Kd.S_drewN | apply Kd.S_drew)); exact HO9.out) hb); have n2_ := Aside0.mk (blk_below (g := w1.heap.size) (o := .cells #[.int .i64 r3, .int .i64 r4, .slice Az10 r5.length cz10] 27 (0, 0)) (by repeat (first | exact blk_new_at (by simp) | (with_reducible refine blk_drewN ?_ _) | (with_reducible refine blk_drew ?_) | (with_reducible refine blk_alloc ?_ _))) hb); have n3_ := Aside0.mk (below_step (by repeat (first | (with_reducible first | exact HB.out | apply below_alloc | apply pw_below_drewN | apply below_drew1) | exact HB.out)) hb); have C13 : Aside0 (w1.heap.size + 1 ≤ w2.heap.size) := ⟨by have h_ := hb.size; (try simp at h_); omega⟩; have CCn_ := Aside0.mk (And.intro CC.out C13.out); clear CC; have CC := CCn_; clear CCn_; clear HO9; clear HB; have HO9 := n1_; clear n1_; have HX11 := n2_; clear n2_; have HB := n3_; clear n3_; have HO14 := Aside0.mk (Kd.S_lower (base' := w.heap.size) (Kd.S_mono (Kd.S_bound ho0_) (ok' := fun k_ => w1.heap.size + 1 ≤ k_ ∧ k_ < w2.heap.size) (fun k_ hk_ => ⟨by have h_ := hk_.2.1; (try simp at h_); omega, hk_.2.2.1⟩)) (by have := CC.out; first | omega | (simp; done) | (simp; omega))); obtain ⟨Az15, cz15, ez15⟩ := Kd.S_slice HO14.out; subst ez15; (try clear hb); (try clear ho0_); have hl16 : w1.heap.size < w2.heap.size := blk_lt HX11.out; have hx17 : w2.cell? ⟨w1.heap.size, 0, none⟩ = some (.int .i64 r3) := (blk_cell HX11.out 0).trans rfl; have hx18 : w2.cell? ⟨w1.heap.size, 1, none⟩ = some (.int .i64 r4) := (blk_cell HX11.out 1).trans rfl; have hx19 : w2.cell? ⟨w1.heap.size, 2, none⟩ = some (.slice Az10 r5.length cz10) := (blk_cell HX11.out 2).trans rfl) | ((with_reducible refine gate_callee (f := 13) rfl ?_); refine goesL_ (some 26) rfl rfl Tryd.func13 (by kernel_rfl) rfl #[.agg #[.int .i64 r3, .int .i64 r4, .slice Az15 r5.length cz15], .agg #[.int .i64 r3, .int .i64 r4, .slice Az10 r5.length cz10]] rfl (by (try simp only [List.map_toArray, List.map_cons, List.map_nil]); first | done | rfl | (simp only [List.length_drop, List.length_take]; rfl)) ?_; (with_reducible refine (laws_eqMatrix.calls k r3 r4 _ _ r5 r3 r4 _ _ r5 true _ ?side1 ?side2 ?side3 ?side4 A21.out).mono ?_); (case side1 => exact (Kd.S_reads' (n := r5.length) (A := Az15) (c := cz15) (by (with_reducible repeat (first | apply Kd.S_alloc | apply Kd.S_drewN | apply Kd.S_drew)); exact HO14.out)).2.2); (case side2 => exact (Kd.S_reads' (n := r5.length) (A := Az15) (c := cz15) HO14.out).2.1); (case side3 => exact (Kd.S_reads' (n := r5.length) (A := Az10) (c := cz10) (by (with_reducible repeat (first | apply Kd.S_alloc | apply Kd.S_drewN | apply Kd.S_drew)); exact HO9.out)).2.2); (case side4 => exact (Kd.S_reads' (n := r5.length) (A := Az10) (c := cz10) HO9.out).2.1); rintro e w3 ⟨rfl, hb⟩; refine ⟨_, rfl, ?_⟩; have n1_ := Aside0.mk (Kd.S_below (by (with_reducible repeat (first | apply Kd.S_alloc | apply Kd.S_drewN | apply Kd.S_drew)); exact HO9.out) hb); have n2_ := Aside0.mk (Kd.S_below (by (with_reducible repeat (first | apply Kd.S_alloc | apply Kd.S_drewN | apply Kd.S_drew)); exact HO14.out) hb); have n3_ := Aside0.mk (blk_below (g := w1.heap.size) (o := .cells #[.int .i64 r3, .int .i64 r4, .slice Az10 r5.length cz10] 27 (0, 0)) (by (with_reducible repeat (first | refine blk_drewN ?_ _ | refine blk_drew ?_ | refine blk_alloc ?_ _)); exact HX11.out) hb); have n4_ := Aside0.mk (blk_below (g := w2.heap.size) (o := .cells #[.int .i64 r3, .int .i64 r4, .slice Az15 r5.length cz15] 27 (0, 0)) (by repeat (first | exact blk_new_at (by simp) | (with_reducible refine blk_drewN ?_ _) | (with_reducible refine blk_drew ?_) | (with_reducible refine blk_alloc ?_ _))) hb); have n5_ := Aside0.mk (below_step (by repeat (first | (with_reducible first | exact HB.out | apply below_alloc | apply pw_below_drewN | apply below_drew1) | exact HB.out)) hb); have C22 : Aside0 (w2.heap.size + 1 ≤ w3.heap.size) := ⟨by have h_ := hb.size; (try simp at h_); omega⟩; have CCn_ := Aside0.mk (And.intro CC.out C22.out); clear CC; have CC := CCn_; clear CCn_; clear HO9; clear HO14; clear HX11; clear HB; clear hl16; clear hx17; clear hx18; clear hx19; have HO9 := n1_; clear n1_; have HO14 := n2_; clear n2_; have HX11 := n3_; clear n3_; have HX20 := n4_; clear n4_; have HB := n5_; clear n5_; (try clear hb); have hl23 : w1.heap.size < w3.heap.size := blk_lt HX11.out; have hx24 : w3.cell? ⟨w1.heap.size, 0, none⟩ = some (.int .i64 r3) := (blk_cell HX11.out 0).trans rfl; have hx25 : w3.cell? ⟨w1.heap.size, 1, none⟩ = some (.int .i64 r4) := (blk_cell HX11.out 1).trans rfl; have hx26 : w3.cell? ⟨w1.heap.size, 2, none⟩ = some (.slice Az10 r5.length cz10) := (blk_cell HX11.out 2).trans rfl; have hl27 : w2.heap.size < w3.heap.size := blk_lt HX20.out; have hx28 : w3.cell? ⟨w2.heap.size, 0, none⟩ = some (.int .i64 r3) := (blk_cell HX20.out 0).trans rfl; have hx29 : w3.cell? ⟨w2.heap.size, 1, none⟩ = some (.int .i64 r4) := (blk_cell HX20.out 1).trans rfl; have hx30 : w3.cell? ⟨w2.heap.size, 2, none⟩ = some (.slice Az15 r5.length cz15) := (blk_cell HX20.out 2).trans rfl) | ((with_reducible refine gate_callee (f := 30) rfl ?_); refine goesL_ (some 35) rfl rfl Tryd.func30 (by kernel_rfl) rfl #[.agg #[.int .i64 r3, .int .i64 r4, .slice Az15 r5.length cz15], .int .i64 1] rfl (by (try simp only [List.map_toArray, List.map_cons, List.map_nil]); first | done | rfl | (simp only [List.length_drop, List.length_take]; rfl)) ?_; (with_reducible refine (laws_markMatrix.callsM k r3 r4 (fun k_ => w1.heap.size + 1 ≤ k_ ∧ k_ < w2.heap.size) (.slice Az15 r5.length cz15) r5 1 m31 ys32 w _ ?side1 ?side2 A33.out).mono ?_); (case side1 => repeat (first | (with_reducible first | exact HB.out | apply below_alloc | apply pw_below_drewN | apply below_drew1) | exact HB.out)); (case side2 => exact (by (with_reducible repeat (first | apply Kd.S_alloc | apply Kd.S_drewN | apply Kd.S_drew)); exact HO14.out)); rintro e w4 ⟨rfl, hm0_, hbk, hk⟩; refine ⟨_, rfl, ?_⟩; have n1_ := Aside0.mk (Kd.S_kept (by (with_reducible repeat (first | apply Kd.S_alloc | apply Kd.S_drewN | apply Kd.S_drew)); exact HO9.out) hk (fun k_ hk_ hs_ => by have := CC.out; have h1_ := hk_; have h2_ := hs_; omega)); have n2_ := Aside0.mk (blk_kept (g := w1.heap.size) (o := .cells #[.int .i64 r3, .int .i64 r4, .slice Az10 r5.length cz10] 27 (0, 0)) (by (with_reducible repeat (first | refine blk_drewN ?_ _ | refine blk_drew ?_ | refine blk_alloc ?_ _)); exact HX11.out) hk (fun hs_ => by have := CC.out; have h2_ := hs_; omega)); have n3_ := Aside0.mk (blk_kept (g := w2.heap.size) (o := .cells #[.int .i64 r3, .int .i64 r4, .slice Az15 r5.length cz15] 27 (0, 0)) (by (with_reducible repeat (first | refine blk_drewN ?_ _ | refine blk_drew ?_ | refine blk_alloc ?_ _)); exact HX20.out) hk (fun hs_ => by have := CC.out; have h2_ := hs_; omega)); have n4_ := Aside0.mk (hbk); have C34 : Aside0 (w3.heap.size ≤ w4.heap.size) := ⟨by have h_ := hk.1; (try simp at h_); omega⟩; have CCn_ := Aside0.mk (And.intro CC.out C34.out); clear CC; have CC := CCn_; clear CCn_; clear HO9; clear HX11; clear HX20; clear HB; clear hl23; clear hx24; clear hx25; clear hx26; clear hl27; clear hx28; clear hx29; clear hx30; have HO9 := n1_; clear n1_; have HX11 := n2_; clear n2_; have HX20 := n3_; clear n3_; have HB := n4_; clear n4_; clear HO14; have HO14 := Aside0.mk hm0_; (try clear hk); (try clear hbk); (try clear hm0_); have hl35 : w1.heap.size < w4.heap.size := blk_lt HX11.out; have hx36 : w4.cell? ⟨w1.heap.size, 0, none⟩ = some (.int .i64 r3) := (blk_cell HX11.out 0).trans rfl; have hx37 : w4.cell? ⟨w1.heap.size, 1, none⟩ = some (.int .i64 r4) := (blk_cell HX11.out 1).trans rfl; have hx38 : w4.cell? ⟨w1.heap.size, 2, none⟩ = some (.slice Az10 r5.length cz10) := (blk_cell HX11.out 2).trans rfl; have hl39 : w2.heap.size < w4.heap.size := blk_lt HX20.out; have hx40 : w4.cell? ⟨w2.heap.size, 0, none⟩ = some (.int .i64 r3) := (blk_cell HX20.out 0).trans rfl; have hx41 : w4.cell? ⟨w2.heap.size, 1, none⟩ = some (.int .i64 r4) := (blk_cell HX20.out 1).trans rfl; have hx42 : w4.cell? ⟨w2.heap.size, 2, none⟩ = some (.slice Az15 r5.length cz15) := (blk_cell HX20.out 2).trans rfl) | ((with_reducible refine gate_callee (f := 31) rfl ?_); refine goesL_ (some 38) rfl rfl Tryd.func31 (by kernel_rfl) rfl #[.agg #[.int .i64 r3, .int .i64 r4, .slice Az15 r5.length cz15], .int .i64 1] rfl (by (try simp only [List.map_toArray, List.map_cons, List.map_nil]); first | done | rfl | (simp only [List.length_drop, List.length_take]; rfl)) ?_; (with_reducible refine (calls_as ?eq_ (laws_heldMatrix.calls k r3 r4 Az15 cz15 ys32 1 m31 _ ?side1 ?side2 A43.out)).mono ?_); (case eq_ => rw [show ys32.length = r5.length from (Kd.S_reads' HO14.out).1.symm]); (case side1 => exact (Kd.S_reads' (n := r5.length) (A := Az15) (c := cz15) (by (with_reducible repeat (first | apply Kd.S_alloc | apply Kd.S_drewN | apply Kd.S_drew)); exact HO14.out)).2.2); (case side2 => exact Nat.le_trans (Nat.le_of_eq (Kd.S_reads' HO14.out).1.symm) (Kd.S_reads' HO14.out).2.1); rintro e w5 ⟨rfl, hb⟩; refine ⟨_, rfl, ?_⟩; have n1_ := Aside0.mk (Kd.S_below (by (with_reducible repeat (first | apply Kd.S_alloc | apply Kd.S_drewN | apply Kd.S_drew)); exact HO9.out) hb); have n2_ := Aside0.mk (Kd.S_below (by (with_reducible repeat (first | apply Kd.S_alloc | apply Kd.S_drewN | apply Kd.S_drew)); exact HO14.out) hb); have n3_ := Aside0.mk (blk_below (g := w1.heap.size) (o := .cells #[.int .i64 r3, .int .i64 r4, .slice Az10 r5.length cz10] 27 (0, 0)) (by (with_reducible repeat (first | refine blk_drewN ?_ _ | refine blk_drew ?_ | refine blk_alloc ?_ _)); exact HX11.out) hb); have n4_ := Aside0.mk (blk_below (g := w2.heap.size) (o := .cells #[.int .i64 r3, .int .i64 r4, .slice Az15 r5.length cz15] 27 (0, 0)) (by (with_reducible repeat (first | refine blk_drewN ?_ _ | refine blk_drew ?_ | refine blk_alloc ?_ _)); exact HX20.out) hb); have n5_ := Aside0.mk (below_step (by repeat (first | (with_reducible first | exact HB.out | apply below_alloc | apply pw_below_drewN | apply below_drew1) | exact HB.out)) hb); have C44 : Aside0 (w4.heap.size ≤ w5.heap.size) := ⟨by have h_ := hb.size; (try simp at h_); omega⟩; have CCn_ := Aside0.mk (And.intro CC.out C44.out); clear CC; have CC := CCn_; clear CCn_; clear HO9; clear HO14; clear HX11; clear HX20; clear HB; clear hl35; clear hx36; clear hx37; clear hx38; clear hl39; clear hx40; clear hx41; clear hx42; have HO9 := n1_; clear n1_; have HO14 := n2_; clear n2_; have HX11 := n3_; clear n3_; have HX20 := n4_; clear n4_; have HB := n5_; clear n5_; (try clear hb); have hl45 : w1.heap.size < w5.heap.size := blk_lt HX11.out; have hx46 : w5.cell? ⟨w1.heap.size, 0, none⟩ = some (.int .i64 r3) := (blk_cell HX11.out 0).trans rfl; have hx47 : w5.cell? ⟨w1.heap.size, 1, none⟩ = some (.int .i64 r4) := (blk_cell HX11.out 1).trans rfl; have hx48 : w5.cell? ⟨w1.heap.size, 2, none⟩ = some (.slice Az10 r5.length cz10) := (blk_cell HX11.out 2).trans rfl; have hl49 : w2.heap.size < w5.heap.size := blk_lt HX20.out; have hx50 : w5.cell? ⟨w2.heap.size, 0, none⟩ = some (.int .i64 r3) := (blk_cell HX20.out 0).trans rfl; have hx51 : w5.cell? ⟨w2.heap.size, 1, none⟩ = some (.int .i64 r4) := (blk_cell HX20.out 1).trans rfl; have hx52 : w5.cell? ⟨w2.heap.size, 2, none⟩ = some (.slice Az15 r5.length cz15) := (blk_cell HX20.out 2).trans rfl) | ((with_reducible refine gate_callee (f := 29) rfl ?_); refine goesL_ (some 46) rfl rfl Tryd.func29 (by kernel_rfl) rfl #[.string a0] rfl (by (try simp only [List.map_toArray, List.map_cons, List.map_nil]); first | done | rfl | (simp only [List.length_drop, List.length_take]; rfl)) ?_; (with_reducible refine (impl_ReadMatrix.calls k a0 r3 r4 r5 r6 _ ?side1 A54.out).mono ?_); (case side1 => exact Glob.below HG.out (by repeat (first | (with_reducible first | exact HB.out | apply below_alloc | apply pw_below_drewN | apply below_drew1) | exact HB.out))); rintro e w6 ⟨v100_, rfl, ho0_, hb⟩; refine ⟨_, rfl, ?_⟩; have n1_ := Aside0.mk (Kd.S_below (by (with_reducible repeat (first | apply Kd.S_alloc | apply Kd.S_drewN | apply Kd.S_drew)); exact HO9.out) hb); have n2_ := Aside0.mk (Kd.S_below (by (with_reducible repeat (first | apply Kd.S_alloc | apply Kd.S_drewN | apply Kd.S_drew)); exact HO14.out) hb); have n3_ := Aside0.mk (blk_below (g := w1.heap.size) (o := .cells #[.int .i64 r3, .int .i64 r4, .slice Az10 r5.length cz10] 27 (0, 0)) (by (with_reducible repeat (first | refine blk_drewN ?_ _ | refine blk_drew ?_ | refine blk_alloc ?_ _)); exact HX11.out) hb); have n4_ := Aside0.mk (blk_below (g := w2.heap.size) (o := .cells #[.int .i64 r3, .int .i64 r4, .slice Az15 r5.length cz15] 27 (0, 0)) (by (with_reducible repeat (first | refine blk_drewN ?_ _ | refine blk_drew ?_ | refine blk_alloc ?_ _)); exact HX20.out) hb); have n5_ := Aside0.mk (below_step (by repeat (first | (with_reducible first | exact HB.out | apply below_alloc | apply pw_below_drewN | apply below_drew1) | exact HB.out)) hb); have C55 : Aside0 (w5.heap.size ≤ w6.heap.size) := ⟨by have h_ := hb.size; (try simp at h_); omega⟩; have CCn_ := Aside0.mk (And.intro CC.out C55.out); clear CC; have CC := CCn_; clear CCn_; clear HO9; clear HO14; clear HX11; clear HX20; clear HB; clear hl45; clear hx46; clear hx47; clear hx48; clear hl49; clear hx50; clear hx51; clear hx52; have HO9 := n1_; clear n1_; have HO14 := n2_; clear n2_; have HX11 := n3_; clear n3_; have HX20 := n4_; clear n4_; have HB := n5_; clear n5_; have HO56 := Aside0.mk (Kd.S_lower (base' := w.heap.size) (Kd.S_mono (Kd.S_bound ho0_) (ok' := fun k_ => w5.heap.size ≤ k_ ∧ k_ < w6.heap.size) (fun k_ hk_ => ⟨by have h_ := hk_.2.1; (try simp at h_); omega, hk_.2.2.1⟩)) (by have := CC.out; first | omega | (simp; done) | (simp; omega))); obtain ⟨Az57, cz57, ez57⟩ := Kd.S_slice HO56.out; subst ez57; (try clear hb); (try clear ho0_); have hl58 : w1.heap.size < w6.heap.size := blk_lt HX11.out; have hx59 : w6.cell? ⟨w1.heap.size, 0, none⟩ = some (.int .i64 r3) := (blk_cell HX11.out 0).trans rfl; have hx60 : w6.cell? ⟨w1.heap.size, 1, none⟩ = some (.int .i64 r4) := (blk_cell HX11.out 1).trans rfl; have hx61 : w6.cell? ⟨w1.heap.size, 2, none⟩ = some (.slice Az10 r5.length cz10) := (blk_cell HX11.out 2).trans rfl; have hl62 : w2.heap.size < w6.heap.size := blk_lt HX20.out; have hx63 : w6.cell? ⟨w2.heap.size, 0, none⟩ = some (.int .i64 r3) := (blk_cell HX20.out 0).trans rfl; have hx64 : w6.cell? ⟨w2.heap.size, 1, none⟩ = some (.int .i64 r4) := (blk_cell HX20.out 1).trans rfl; have hx65 : w6.cell? ⟨w2.heap.size, 2, none⟩ = some (.slice Az15 r5.length cz15) := (blk_cell HX20.out 2).trans rfl) | ((with_reducible refine gate_callee (f := 13) rfl ?_); refine goesL_ (some 51) rfl rfl Tryd.func13 (by kernel_rfl) rfl #[.agg #[.int .i64 r3, .int .i64 r4, .slice Az57 r5.length cz57], .agg #[.int .i64 r3, .int .i64 r4, .slice Az10 r5.length cz10]] rfl (by (try simp only [List.map_toArray, List.map_cons, List.map_nil]); first | done | rfl | (simp only [List.length_drop, List.length_take]; rfl)) ?_; (with_reducible refine (laws_eqMatrix.calls k r3 r4 _ _ r5 r3 r4 _ _ r5 true _ ?side1 ?side2 ?side3 ?side4 A67.out).mono ?_); (case side1 => exact (Kd.S_reads' (n := r5.length) (A := Az57) (c := cz57) (by (with_reducible repeat (first | apply Kd.S_alloc | apply Kd.S_drewN | apply Kd.S_drew)); exact HO56.out)).2.2); (case side2 => exact (Kd.S_reads' (n := r5.length) (A := Az57) (c := cz57) HO56.out).2.1); (case side3 => exact (Kd.S_reads' (n := r5.length) (A := Az10) (c := cz10) (by (with_reducible repeat (first | apply Kd.S_alloc | apply Kd.S_drewN | apply Kd.S_drew)); exact HO9.out)).2.2); (case side4 => exact (Kd.S_reads' (n := r5.length) (A := Az10) (c := cz10) HO9.out).2.1); rintro e w7 ⟨rfl, hb⟩; refine ⟨_, rfl, ?_⟩; have n1_ := Aside0.mk (Kd.S_below (by (with_reducible repeat (first | apply Kd.S_alloc | apply Kd.S_drewN | apply Kd.S_drew)); exact HO9.out) hb); have n2_ := Aside0.mk (Kd.S_below (by (with_reducible repeat (first | apply Kd.S_alloc | apply Kd.S_drewN | apply Kd.S_drew)); exact HO14.out) hb); have n3_ := Aside0.mk (Kd.S_below (by (with_reducible repeat (first | apply Kd.S_alloc | apply Kd.S_drewN | apply Kd.S_drew)); exact HO56.out) hb); have n4_ := Aside0.mk (blk_below (g := w1.heap.size) (o := .cells #[.int .i64 r3, .int .i64 r4, .slice Az10 r5.length cz10] 27 (0, 0)) (by (with_reducible repeat (first | refine blk_drewN ?_ _ | refine blk_drew ?_ | refine blk_alloc ?_ _)); exact HX11.out) hb); have n5_ := Aside0.mk (blk_below (g := w2.heap.size) (o := .cells #[.int .i64 r3, .int .i64 r4, .slice Az15 r5.length cz15] 27 (0, 0)) (by (with_reducible repeat (first | refine blk_drewN ?_ _ | refine blk_drew ?_ | refine blk_alloc ?_ _)); exact HX20.out) hb); have n6_ := Aside0.mk (blk_below (g := w6.heap.size) (o := .cells #[.int .i64 r3, .int .i64 r4, .slice Az57 r5.length cz57] 27 (0, 0)) (by repeat (first | exact blk_new_at (by simp) | (with_reducible refine blk_drewN ?_ _) | (with_reducible refine blk_drew ?_) | (with_reducible refine blk_alloc ?_ _))) hb); have n7_ := Aside0.mk (below_step (by repeat (first | (with_reducible first | exact HB.out | apply below_alloc | apply pw_below_drewN | apply below_drew1) | exact HB.out)) hb); have C68 : Aside0 (w6.heap.size + 1 ≤ w7.heap.size) := ⟨by have h_ := hb.size; (try simp at h_); omega⟩; have CCn_ := Aside0.mk (And.intro CC.out C68.out); clear CC; have CC := CCn_; clear CCn_; clear HO9; clear HO14; clear HO56; clear HX11; clear HX20; clear HB; clear hl58; clear hx59; clear hx60; clear hx61; clear hl62; clear hx63; clear hx64; clear hx65; have HO9 := n1_; clear n1_; have HO14 := n2_; clear n2_; have HO56 := n3_; clear n3_; have HX11 := n4_; clear n4_; have HX20 := n5_; clear n5_; have HX66 := n6_; clear n6_; have HB := n7_; clear n7_; (try clear hb); have hl69 : w1.heap.size < w7.heap.size := blk_lt HX11.out; have hx70 : w7.cell? ⟨w1.heap.size, 0, none⟩ = some (.int .i64 r3) := (blk_cell HX11.out 0).trans rfl; have hx71 : w7.cell? ⟨w1.heap.size, 1, none⟩ = some (.int .i64 r4) := (blk_cell HX11.out 1).trans rfl; have hx72 : w7.cell? ⟨w1.heap.size, 2, none⟩ = some (.slice Az10 r5.length cz10) := (blk_cell HX11.out 2).trans rfl; have hl73 : w2.heap.size < w7.heap.size := blk_lt HX20.out; have hx74 : w7.cell? ⟨w2.heap.size, 0, none⟩ = some (.int .i64 r3) := (blk_cell HX20.out 0).trans rfl; have hx75 : w7.cell? ⟨w2.heap.size, 1, none⟩ = some (.int .i64 r4) := (blk_cell HX20.out 1).trans rfl; have hx76 : w7.cell? ⟨w2.heap.size, 2, none⟩ = some (.slice Az15 r5.length cz15) := (blk_cell HX20.out 2).trans rfl; have hl77 : w6.heap.size < w7.heap.size := blk_lt HX66.out; have hx78 : w7.cell? ⟨w6.heap.size, 0, none⟩ = some (.int .i64 r3) := (blk_cell HX66.out 0).trans rfl; have hx79 : w7.cell? ⟨w6.heap.size, 1, none⟩ = some (.int .i64 r4) := (blk_cell HX66.out 1).trans rfl; have hx80 : w7.cell? ⟨w6.heap.size, 2, none⟩ = some (.slice Az57 r5.length cz57) := (blk_cell HX66.out 2).trans rfl) | ((with_reducible refine gate_callee (f := 31) rfl ?_); refine goesL_ (some 60) rfl rfl Tryd.func31 (by kernel_rfl) rfl #[.agg #[.int .i64 r3, .int .i64 r4, .slice Az15 r5.length cz15], .int .i64 1] rfl (by (try simp only [List.map_toArray, List.map_cons, List.map_nil]); first | done | rfl | (simp only [List.length_drop, List.length_take]; rfl)) ?_; (with_reducible refine (calls_as ?eq_ (laws_heldMatrix.calls k r3 r4 Az15 cz15 ys32 1 m31 _ ?side1 ?side2 A81.out)).mono ?_); (case eq_ => rw [show ys32.length = r5.length from (Kd.S_reads' HO14.out).1.symm]); (case side1 => exact (Kd.S_reads' (n := r5.length) (A := Az15) (c := cz15) (by (with_reducible repeat (first | apply Kd.S_alloc | apply Kd.S_drewN | apply Kd.S_drew)); exact HO14.out)).2.2); (case side2 => exact Nat.le_trans (Nat.le_of_eq (Kd.S_reads' HO14.out).1.symm) (Kd.S_reads' HO14.out).2.1); rintro e w8 ⟨rfl, hb⟩; refine ⟨_, rfl, ?_⟩; have n1_ := Aside0.mk (Kd.S_below (by (with_reducible repeat (first | apply Kd.S_alloc | apply Kd.S_drewN | apply Kd.S_drew)); exact HO9.out) hb); have n2_ := Aside0.mk (Kd.S_below (by (with_reducible repeat (first | apply Kd.S_alloc | apply Kd.S_drewN | apply Kd.S_drew)); exact HO14.out) hb); have n3_ := Aside0.mk (Kd.S_below (by (with_reducible repeat (first | apply Kd.S_alloc | apply Kd.S_drewN | apply Kd.S_drew)); exact HO56.out) hb); have n4_ := Aside0.mk (blk_below (g := w1.heap.size) (o := .cells #[.int .i64 r3, .int .i64 r4, .slice Az10 r5.length cz10] 27 (0, 0)) (by (with_reducible repeat (first | refine blk_drewN ?_ _ | refine blk_drew ?_ | refine blk_alloc ?_ _)); exact HX11.out) hb); have n5_ := Aside0.mk (blk_below (g := w2.heap.size) (o := .cells #[.int .i64 r3, .int .i64 r4, .slice Az15 r5.length cz15] 27 (0, 0)) (by (with_reducible repeat (first | refine blk_drewN ?_ _ | refine blk_drew ?_ | refine blk_alloc ?_ _)); exact HX20.out) hb); have n6_ := Aside0.mk (blk_below (g := w6.heap.size) (o := .cells #[.int .i64 r3, .int .i64 r4, .slice Az57 r5.length cz57] 27 (0, 0)) (by (with_reducible repeat (first | refine blk_drewN ?_ _ | refine blk_drew ?_ | refine blk_alloc ?_ _)); exact HX66.out) hb); have n7_ := Aside0.mk (below_step (by repeat (first | (with_reducible first | exact HB.out | apply below_alloc | apply pw_below_drewN | apply below_drew1) | exact HB.out)) hb); have C82 : Aside0 (w7.heap.size ≤ w8.heap.size) := ⟨by have h_ := hb.size; (try simp at h_); omega⟩; have CCn_ := Aside0.mk (And.intro CC.out C82.out); clear CC; have CC := CCn_; clear CCn_; clear HO9; clear HO14; clear HO56; clear HX11; clear HX20; clear HX66; clear HB; clear hl69; clear hx70; clear hx71; clear hx72; clear hl73; clear hx74; clear hx75; clear hx76; clear hl77; clear hx78; clear hx79; clear hx80; have HO9 := n1_; clear n1_; have HO14 := n2_; clear n2_; have HO56 := n3_; clear n3_; have HX11 := n4_; clear n4_; have HX20 := n5_; clear n5_; have HX66 := n6_; clear n6_; have HB := n7_; clear n7_; (try clear hb); have hl83 : w1.heap.size < w8.heap.size := blk_lt HX11.out; have hx84 : w8.cell? ⟨w1.heap.size, 0, none⟩ = some (.int .i64 r3) := (blk_cell HX11.out 0).trans rfl; have hx85 : w8.cell? ⟨w1.heap.size, 1, none⟩ = some (.int .i64 r4) := (blk_cell HX11.out 1).trans rfl; have hx86 : w8.cell? ⟨w1.heap.size, 2, none⟩ = some (.slice Az10 r5.length cz10) := (blk_cell HX11.out 2).trans rfl; have hl87 : w2.heap.size < w8.heap.size := blk_lt HX20.out; have hx88 : w8.cell? ⟨w2.heap.size, 0, none⟩ = some (.int .i64 r3) := (blk_cell HX20.out 0).trans rfl; have hx89 : w8.cell? ⟨w2.heap.size, 1, none⟩ = some (.int .i64 r4) := (blk_cell HX20.out 1).trans rfl; have hx90 : w8.cell? ⟨w2.heap.size, 2, none⟩ = some (.slice Az15 r5.length cz15) := (blk_cell HX20.out 2).trans rfl; have hl91 : w6.heap.size < w8.heap.size := blk_lt HX66.out; have hx92 : w8.cell? ⟨w6.heap.size, 0, none⟩ = some (.int .i64 r3) := (blk_cell HX66.out 0).trans rfl; have hx93 : w8.cell? ⟨w6.heap.size, 1, none⟩ = some (.int .i64 r4) := (blk_cell HX66.out 1).trans rfl; have hx94 : w8.cell? ⟨w6.heap.size, 2, none⟩ = some (.slice Az57 r5.length cz57) := (blk_cell HX66.out 2).trans rfl))
 go_ret
 exact ⟨rfl, by repeat (first | (with_reducible first | exact HB.out | apply below_alloc | apply pw_below_drewN | apply below_drew1) | exact HB.out)⟩
def laws_FnExactReadMatrix.Way0 (a0 : ByteArray) : Prop := ∃ k : Nat, (decide (1048576 < (a0.size : Int)) = true) ∧ (decide (1048576 < a0.size) = true)
def laws_FnExactReadMatrix.Way1 (a0 : ByteArray) : Prop := ∃ k : Nat, ∃ (r3 : Int) (r4 : Int) (r5 : List (List Int)) (r6 : Int) (m31 : Int) (ys32 : List (List Int)), (decide (1048576 < (a0.size : Int)) = false) ∧ (decide (1048576 < a0.size) = false) ∧ (spec_ReadMatrix.f k a0 = some (r3, r4, r5, r6)) ∧ (impl_ReadMatrix.f k a0 = some (r3, r4, r5, r6)) ∧ (laws_eqMatrix.f k r3 r4 r5 r3 r4 r5 = some true) ∧ (laws_markMatrix.f k r3 r4 r5 1 = some (m31, ys32)) ∧ (laws_heldMatrix.f k r3 r4 ys32 1 = some m31) ∧ (decide (m31 < 0) = false) ∧ (impl_ReadMatrix.f k a0 = some (r3, r4, r5, r6)) ∧ (laws_eqMatrix.f k r3 r4 r5 r3 r4 r5 = some true) ∧ (laws_heldMatrix.f k r3 r4 ys32 1 = some m31) ∧ (decide (m31 < 0) = false)
def laws_FnExactReadMatrix.Pure : Prop := ∀ (a0 : ByteArray), (a0.size ≤ maxLen) → laws_FnExactReadMatrix.Way0 a0 ∨ laws_FnExactReadMatrix.Way1 a0
theorem laws_FnExactReadMatrix.walk (P : laws_FnExactReadMatrix.Pure) (a0 : ByteArray)  (w : World)  (wf0 : (a0.size ≤ maxLen)) (hG : Glob w) :
  Calls Tryd.prog 7 #[.string a0] w fun e w' => e = .returned (.bool true) ∧ Below w.heap.size w w' := by
 rcases P a0 wf0 with h | h
 ·obtain ⟨k, t1, t2⟩ := h
  exact laws_FnExactReadMatrix.way0 k a0  w hG  t1 t2
 ·obtain ⟨k, r3, r4, r5, r6, m31, ys32, t1, t2, A7, A12, A21, A33, A43, t53, A54, A67, A81, t95⟩ := h
  exact laws_FnExactReadMatrix.way1 k a0 r3 r4 r5 r6 m31 ys32 w hG  t1 t2 A7 A12 A21 A33 A43 t53 A54 A67 A81 t95
section
variable {H : Type} {enc : TypeId × Value → H} {P : Program} {w : World} {base : Nat} {held : Bool} {α : Type}
end
def spec_Decimal.f : Nat → Int → Option (ByteArray)
 | 0, _ => none
 | k + 1, a0 => if a0 ≥ 10 then ((spec_Decimal.f k (wrap64 (Int.tdiv a0 10))).bind fun t113 => ((some (([(wrap64 (48 + (Int.tmod a0 10))) % 256] : List Int) : List Int)).bind fun y114 => (if t113.size + (strOfNums y114).size ≤ 9223372036854775807 then (some (t113 ++ (strOfNums y114))) else (none)))) else (some (strOfNums (([(wrap64 (48 + a0)) % 256] : List Int))))
end Go.Proofs.YtijmdlhcidjpmaaDoor.P

namespace Go.Proofs.YtijmdlhcidjpmaaDoor.P
open Go.RowKit Go.Proofs.YtijmdlhcidjpmaaDoorW.PrintWords Go.Proofs.YtijmdlhcidjpmaaDoorW.PrintLast Go.Proofs.YtijmdlhcidjpmaaDoorW.PrintMore
attribute [local go_sem] max2_int min2_int max_two min_two max_three min_three max_four min_four
set_option linter.unusedVariables false
set_option linter.unusedSimpArgs false
end Go.Proofs.YtijmdlhcidjpmaaDoor.P

namespace Go.Proofs.YtijmdlhcidjpmaaDoor.P
open Go.RowKit Go.Proofs.YtijmdlhcidjpmaaDoorW.PrintWords Go.Proofs.YtijmdlhcidjpmaaDoorW.PrintLast Go.Proofs.YtijmdlhcidjpmaaDoorW.PrintMore
attribute [local go_sem] max2_int min2_int max_two min_two max_three min_three max_four min_four
set_option linter.unusedVariables false
set_option linter.unusedSimpArgs false
end Go.Proofs.YtijmdlhcidjpmaaDoor.P

namespace Go.Proofs.YtijmdlhcidjpmaaDoor.P
open Go.RowKit Go.Proofs.YtijmdlhcidjpmaaDoorW.PrintWords Go.Proofs.YtijmdlhcidjpmaaDoorW.PrintLast Go.Proofs.YtijmdlhcidjpmaaDoorW.PrintMore
attribute [local go_sem] max2_int min2_int max_two min_two max_three min_three max_four min_four
set_option linter.unusedVariables false
set_option linter.unusedSimpArgs false
end Go.Proofs.YtijmdlhcidjpmaaDoor.P

namespace Go.Proofs.YtijmdlhcidjpmaaDoor.P
open Go.RowKit Go.Proofs.YtijmdlhcidjpmaaDoorW.PrintWords Go.Proofs.YtijmdlhcidjpmaaDoorW.PrintLast Go.Proofs.YtijmdlhcidjpmaaDoorW.PrintMore
attribute [local go_sem] max2_int min2_int max_two min_two max_three min_three max_four min_four
set_option linter.unusedVariables false
set_option linter.unusedSimpArgs false
end Go.Proofs.YtijmdlhcidjpmaaDoor.P

namespace Go.Proofs.YtijmdlhcidjpmaaDoor.P
open Go.RowKit Go.Proofs.YtijmdlhcidjpmaaDoorW.PrintWords Go.Proofs.YtijmdlhcidjpmaaDoorW.PrintLast Go.Proofs.YtijmdlhcidjpmaaDoorW.PrintMore
attribute [local go_sem] max2_int min2_int max_two min_two max_three min_three max_four min_four
set_option linter.unusedVariables false
set_option linter.unusedSimpArgs false
end Go.Proofs.YtijmdlhcidjpmaaDoor.P

namespace Go.Proofs.YtijmdlhcidjpmaaDoor.P
open Go.RowKit Go.Proofs.YtijmdlhcidjpmaaDoorW.PrintWords Go.Proofs.YtijmdlhcidjpmaaDoorW.PrintLast Go.Proofs.YtijmdlhcidjpmaaDoorW.PrintMore
attribute [local go_sem] max2_int min2_int max_two min_two max_three min_three max_four min_four
set_option linter.unusedVariables false
set_option linter.unusedSimpArgs false
end Go.Proofs.YtijmdlhcidjpmaaDoor.P

namespace Go.Proofs.YtijmdlhcidjpmaaDoor.P
open Go.RowKit Go.Proofs.YtijmdlhcidjpmaaDoorW.PrintWords Go.Proofs.YtijmdlhcidjpmaaDoorW.PrintLast Go.Proofs.YtijmdlhcidjpmaaDoorW.PrintMore
attribute [local go_sem] max2_int min2_int max_two min_two max_three min_three max_four min_four
set_option linter.unusedVariables false
set_option linter.unusedSimpArgs false
end Go.Proofs.YtijmdlhcidjpmaaDoor.P

namespace Go.Proofs.YtijmdlhcidjpmaaDoor.P
open Go.RowKit Go.Proofs.YtijmdlhcidjpmaaDoorW.PrintWords Go.Proofs.YtijmdlhcidjpmaaDoorW.PrintLast Go.Proofs.YtijmdlhcidjpmaaDoorW.PrintMore
attribute [local go_sem] max2_int min2_int max_two min_two max_three min_three max_four min_four
set_option linter.unusedVariables false
set_option linter.unusedSimpArgs false
end Go.Proofs.YtijmdlhcidjpmaaDoor.P

namespace Go.Proofs.YtijmdlhcidjpmaaDoor.P
open Go.RowKit Go.Proofs.YtijmdlhcidjpmaaDoorW.PrintWords Go.Proofs.YtijmdlhcidjpmaaDoorW.PrintLast Go.Proofs.YtijmdlhcidjpmaaDoorW.PrintMore
attribute [local go_sem] max2_int min2_int max_two min_two max_three min_three max_four min_four
set_option linter.unusedVariables false
set_option linter.unusedSimpArgs false
end Go.Proofs.YtijmdlhcidjpmaaDoor.P

namespace Go.Proofs.YtijmdlhcidjpmaaDoor.P
open Go.RowKit Go.Proofs.YtijmdlhcidjpmaaDoorW.PrintWords Go.Proofs.YtijmdlhcidjpmaaDoorW.PrintLast Go.Proofs.YtijmdlhcidjpmaaDoorW.PrintMore
attribute [local go_sem] max2_int min2_int max_two min_two max_three min_three max_four min_four
set_option linter.unusedVariables false
set_option linter.unusedSimpArgs false
theorem eqInt64S_loop (a b : List Int) (hl : a.length ≤ 1048576) (hab : a.length = b.length) : ∀ (d i : Nat), i + d = a.length → Ev (fun k => laws_eqInt64S.l0 k a b (i : Int)) (decide (a.drop i = b.drop i)) := by
 intro d
 induction d with
 | zero =>
  intro i hi
  refine Ev.step (f := fun _ => some true) (fun k => ?_) ?_
  ·simp only [laws_eqInt64S.l0]
   rw [if_neg (by omega)]
  ·rw [List.drop_eq_nil_of_le (by omega), List.drop_eq_nil_of_le (by omega), decide_eq_true rfl]
   exact Ev.now _
 | succ d ih =>
  intro i hi
  have h1 : i < a.length := by omega
  have h2 : i < b.length := by omega
  have ed : (a.drop i = b.drop i) ↔ (a[i] = b[i] ∧ a.drop (i + 1) = b.drop (i + 1)) := by
   rw [List.drop_eq_getElem_cons h1, List.drop_eq_getElem_cons h2, List.cons.injEq]
  by_cases e : a[i] = b[i]
  ·rw [show decide (a.drop i = b.drop i) = decide (a.drop (i + 1) = b.drop (i + 1)) from by simp only [ed, e, true_and]]
   refine Ev.step (fun k => ?_) (ih (i + 1) (by omega))
   simp only [laws_eqInt64S.l0]
   rw [if_pos (by omega), if_pos (by omega), if_pos (by omega), rd_nat a i h1, rd_nat b i h2, if_pos e, wr (by omega) (by omega)]
   rfl
  ·refine Ev.step (f := fun _ => some false) (fun k => ?_) ?_
   ·simp only [laws_eqInt64S.l0]
    rw [if_pos (by omega), if_pos (by omega), if_pos (by omega), rd_nat a i h1, rd_nat b i h2, if_neg e]
   ·rw [decide_eq_false (by rw [ed]; simp [e])]
    exact Ev.now _
theorem eqInt64S_ev (a b : List Int) (hl : a.length ≤ 1048576) : Ev (fun k => laws_eqInt64S.f k a b) (decide (a = b)) := by
 unfold laws_eqInt64S.f
 by_cases h : a.length = b.length
 ·simp only [if_pos (show (a.length : Int) = (b.length : Int) by omega)]
  have := eqInt64S_loop a b hl h a.length 0 (by omega)
  rw [List.drop_zero, List.drop_zero] at this
  exact this
 ·simp only [if_neg (show ¬ (a.length : Int) = (b.length : Int) by omega)]
  rw [decide_eq_false (by intro e; exact h (by rw [e]))]
  exact Ev.now _
def before (l : List Int) (i : Nat) : Option Int := if i = 0 then none else l[i - 1]?
end Go.Proofs.YtijmdlhcidjpmaaDoor.P

namespace Go.Proofs.YtijmdlhcidjpmaaDoor.P
open Go.RowKit Go.Proofs.YtijmdlhcidjpmaaDoorW.PrintWords Go.Proofs.YtijmdlhcidjpmaaDoorW.PrintLast Go.Proofs.YtijmdlhcidjpmaaDoorW.PrintMore
attribute [local go_sem] max2_int min2_int max_two min_two max_three min_three max_four min_four
set_option linter.unusedVariables false
set_option linter.unusedSimpArgs false
end Go.Proofs.YtijmdlhcidjpmaaDoor.P

namespace Go.Proofs.YtijmdlhcidjpmaaDoor.P
open Go.RowKit Go.Proofs.YtijmdlhcidjpmaaDoorW.PrintWords Go.Proofs.YtijmdlhcidjpmaaDoorW.PrintLast Go.Proofs.YtijmdlhcidjpmaaDoorW.PrintMore
attribute [local go_sem] max2_int min2_int max_two min_two max_three min_three max_four min_four
set_option linter.unusedVariables false
set_option linter.unusedSimpArgs false
end Go.Proofs.YtijmdlhcidjpmaaDoor.P

namespace Go.Proofs.YtijmdlhcidjpmaaDoor.P
open Go.RowKit Go.Proofs.YtijmdlhcidjpmaaDoorW.PrintWords Go.Proofs.YtijmdlhcidjpmaaDoorW.PrintLast Go.Proofs.YtijmdlhcidjpmaaDoorW.PrintMore
attribute [local go_sem] max2_int min2_int max_two min_two max_three min_three max_four min_four
set_option linter.unusedVariables false
set_option linter.unusedSimpArgs false
theorem scan_ev {ρ : Type} {l : Nat → Int → Option ρ} {n : Nat} {q : Nat → Bool} {fin stop : ρ}
  (hgo : ∀ i : Nat, i < n → q i = true → ∀ r, Ev (fun k => l k ((i + 1 : Nat) : Int)) r → Ev (fun k => l k (i : Int)) r)
  (hstop : ∀ i : Nat, i < n → q i = false → Ev (fun k => l k (i : Int)) stop)
  (hend : Ev (fun k => l k (n : Int)) fin) : Ev (fun k => l k 0) (if (List.range n).all q then fin else stop) := by
 have key : ∀ d i : Nat, i + d = n → Ev (fun k => l k (i : Int)) (if ((List.range n).drop i).all q then fin else stop) := by
  intro d
  induction d with
  | zero =>
   intro i hi
   obtain rfl : i = n := by omega
   rw [List.drop_eq_nil_of_le (by simp)]
   exact hend
  | succ d ih =>
   intro i hi
   rw [List.drop_eq_getElem_cons (by simp; omega), List.getElem_range, List.all_cons]
   cases hq : q i with
   | false => exact hstop i (by omega) hq
   | true => rw [Bool.true_and]; exact hgo i (by omega) hq _ (ih (i + 1) (by omega))
 have := key n 0 (by omega)
 rw [List.drop_zero] at this
 exact this
theorem range_all {α : Type} (xs : List α) (p : α → Bool) (q : Nat → Bool) (h : ∀ (i : Nat) (hi : i < xs.length), q i = p xs[i]) : (List.range xs.length).all q = xs.all p := by
 rw [Bool.eq_iff_iff, List.all_eq_true, List.all_eq_true]
 constructor
 ·intro hq x hx
  obtain ⟨i, hi, rfl⟩ := List.getElem_of_mem hx
  rw [← h i hi]
  exact hq i (by simpa using hi)
 ·intro hp i hi
  have hi' : i < xs.length := by simpa using hi
  rw [h i hi']
  exact hp _ (List.getElem_mem hi')
theorem rdL_nat (xs : List (List Int)) (i : Nat) (h : i < xs.length) : rd_L1 xs (i : Int) = xs[i] := by
 simp [rd_L1, h]
theorem sum_take_le (l : List Nat) (i : Nat) : (l.take i).sum ≤ l.sum := by
 conv => rhs; rw [← List.take_append_drop i l, List.sum_append]
 omega
theorem sum_take_succ (l : List Nat) (i : Nat) (h : i < l.length) : (l.take (i + 1)).sum = (l.take i).sum + l[i] := by
 rw [List.take_succ_eq_append_getElem h, List.sum_append]; simp
theorem eqInt64SS_ev (a b : List (List Int)) (hl : a.length ≤ 1048576) (hr : ∀ r ∈ a, r.length ≤ 1048576) : Ev (fun k => laws_eqInt64SS.f k a b) (decide (a = b)) := by
 unfold laws_eqInt64SS.f
 by_cases h : a.length = b.length
 ·simp only [if_pos (show (a.length : Int) = (b.length : Int) by omega)]
  have key : ∀ (d i : Nat), i + d = a.length → Ev (fun k => laws_eqInt64SS.l0 k a b (i : Int)) (decide (a.drop i = b.drop i)) := by
   intro d
   induction d with
   | zero =>
    intro i hi
    refine Ev.step (f := fun _ => some true) (fun k => ?_) ?_
    ·simp only [laws_eqInt64SS.l0]
     rw [if_neg (by omega)]
    ·rw [List.drop_eq_nil_of_le (by omega), List.drop_eq_nil_of_le (by omega), decide_eq_true rfl]
     exact Ev.now _
   | succ d ih =>
    intro i hi
    have h1 : i < a.length := by omega
    have h2 : i < b.length := by omega
    have ed : (a.drop i = b.drop i) ↔ (a[i] = b[i] ∧ a.drop (i + 1) = b.drop (i + 1)) := by
     rw [List.drop_eq_getElem_cons h1, List.drop_eq_getElem_cons h2, List.cons.injEq]
    refine Ev.step (f := fun k => (laws_eqInt64S.f k a[i] b[i]).bind fun t => if t = true then laws_eqInt64SS.l0 k a b ((i + 1 : Nat) : Int) else some false) (fun k => ?_) ?_
    ·simp only [laws_eqInt64SS.l0]
     rw [if_pos (by omega), if_pos (by omega), if_pos (by omega), rdL_nat a i h1, rdL_nat b i h2, wr (by omega) (by omega)]
     rfl
    ·refine Ev.bind (eqInt64S_ev _ _ (hr _ (List.getElem_mem h1))) ?_
     by_cases e : a[i] = b[i]
     ·rw [decide_eq_true e, show decide (a.drop i = b.drop i) = decide (a.drop (i + 1) = b.drop (i + 1)) from by simp only [ed, e, true_and]]
      exact ih (i + 1) (by omega)
     ·rw [decide_eq_false e, decide_eq_false (by rw [ed]; simp [e])]
      exact Ev.now _
  have := key a.length 0 (by omega)
  rw [List.drop_zero, List.drop_zero] at this
  exact this
 ·simp only [if_neg (show ¬ (a.length : Int) = (b.length : Int) by omega)]
  rw [decide_eq_false (by intro e; exact h (by rw [e]))]
  exact Ev.now _
theorem eqInt64SS_same (a : List (List Int)) (hl : a.length ≤ 1048576) (hr : ∀ r ∈ a, r.length ≤ 1048576) : Ev (fun k => laws_eqInt64SS.f k a a) true := by
 have := eqInt64SS_ev a a hl hr
 rwa [decide_eq_true rfl] at this
theorem eqMatrix_same (p c : Int) (l : List (List Int)) (hl : l.length ≤ 1048576) (hr : ∀ r ∈ l, r.length ≤ 1048576) : Ev (fun k => laws_eqMatrix.f k p c l p c l) true := by
 unfold laws_eqMatrix.f
 simp only [if_true]
 refine Ev.bind (eqInt64SS_same l hl hr) ?_
 simp only [if_true]
 exact Ev.now _
def grp (gs : List (List Int)) (i : Nat) : List Int := gs.getD i []
theorem rdL_grp (gs : List (List Int)) (i : Nat) (h : i < gs.length) : rd_L1 gs (i : Int) = grp gs i := by
 rw [rdL_nat gs i h]; simp [grp, h]
end Go.Proofs.YtijmdlhcidjpmaaDoor.P

namespace Go.Proofs.YtijmdlhcidjpmaaDoor.P
open Go.RowKit Go.Proofs.YtijmdlhcidjpmaaDoorW.PrintWords Go.Proofs.YtijmdlhcidjpmaaDoorW.PrintLast Go.Proofs.YtijmdlhcidjpmaaDoorW.PrintMore
attribute [local go_sem] max2_int min2_int max_two min_two max_three min_three max_four min_four
set_option linter.unusedVariables false
set_option linter.unusedSimpArgs false
end Go.Proofs.YtijmdlhcidjpmaaDoor.P

namespace Go.Proofs.YtijmdlhcidjpmaaDoor.P
open Go.RowKit Go.Proofs.YtijmdlhcidjpmaaDoorW.PrintWords Go.Proofs.YtijmdlhcidjpmaaDoorW.PrintLast Go.Proofs.YtijmdlhcidjpmaaDoorW.PrintMore
attribute [local go_sem] max2_int min2_int max_two min_two max_three min_three max_four min_four
set_option linter.unusedVariables false
set_option linter.unusedSimpArgs false
def decS (n : Int) : ByteArray := (impl_decimal.f n).getD (⟨#[]⟩ : ByteArray)
theorem dec_both : ∀ n : Fin 100, (spec_Decimal.f 3 (n.val : Int)).map (fun b => b.data.toList) = (impl_decimal.f (n.val : Int)).map (fun b => b.data.toList) ∧ (impl_decimal.f (n.val : Int)).isSome = true ∧ ((impl_decimal.f (n.val : Int)).getD (⟨#[]⟩ : ByteArray)).data.toList.length ≤ 2 := by decide +kernel
theorem bytes_ext {a b : ByteArray} (h : a.data.toList = b.data.toList) : a = b := by
 cases a with
 | mk a =>
  cases b with
  | mk b => exact congrArg ByteArray.mk (Array.toList_inj.mp h)
theorem impl_decimal_eq {n : Int} (h0 : 0 ≤ n) (h1 : n < 100) : impl_decimal.f n = some (decS n) := by
 have h := (dec_both ⟨n.toNat, by omega⟩).2.1
 rw [show (((⟨n.toNat, by omega⟩ : Fin 100).val : Nat) : Int) = n from by simp; omega] at h
 unfold decS
 cases e : impl_decimal.f n with
 | none => rw [e] at h; cases h
 | some r => rfl
theorem decS_size {n : Int} (h0 : 0 ≤ n) (h1 : n < 100) : (decS n).size ≤ 2 := by
 have h := (dec_both ⟨n.toNat, by omega⟩).2.2
 rw [show (((⟨n.toNat, by omega⟩ : Fin 100).val : Nat) : Int) = n from by simp; omega] at h
 exact h
def rowB (p cols : Int) (r : List Int) : Bool := decide ((r.length : Int) = cols) && elemsB p r
def validMB (p cols : Int) (rows : List (List Int)) : Bool := primeB p && (decide (0 ≤ cols ∧ cols ≤ 12) && (decide (rows.length ≤ 20) && rows.all (rowB p cols)))
theorem spec_l03Row_ev (p cols : Int) (r : List Int) (hp : -1000 ≤ p ∧ p ≤ 1000) (hl : r.length ≤ 4611686018427387904) : Ev (fun k => spec_l03Row.f k p cols r) (rowB p cols r) := by
 unfold spec_l03Row.f
 have h := scan_ev (l := fun k i => spec_l03Row.l0 k p cols r i) (n := r.length) (q := fun i => decide (0 ≤ rd r i ∧ rd r i ≤ p - 1)) (fin := decide ((r.length : Int) = cols)) (stop := false)
  (fun i hi hq t ht => by
   refine Ev.step (fun k => ?_) ht
   simp only [spec_l03Row.l0]
   rw [if_pos (by omega), if_pos (by omega), wr (x := p - 1) (by omega) (by omega), spec_l00In_eq, wr (x := (i : Int) + 1) (by omega) (by omega)]
   simp only [Option.bind_some]
   rw [if_pos hq]
   rfl)
  (fun i hi hq => by
   refine Ev.step (f := fun _ => some false) (fun k => ?_) (Ev.now _)
   simp only [spec_l03Row.l0]
   rw [if_pos (by omega), if_pos (by omega), wr (x := p - 1) (by omega) (by omega), spec_l00In_eq]
   simp only [Option.bind_some]
   rw [if_neg (by rw [hq]; decide)])
  (by
   refine Ev.step (f := fun _ => some ((r.length : Int) == cols)) (fun k => ?_) ?_
   ·simp only [spec_l03Row.l0]
    rw [if_neg (by omega)]
   ·rw [show ((r.length : Int) == cols) = decide ((r.length : Int) = cols) from by by_cases e : (r.length : Int) = cols <;> simp [e]]
    exact Ev.now _)
 rw [range_all r (fun a => decide (0 ≤ a ∧ a ≤ p - 1)) _ (fun i hi => by simp only [rd_nat r i hi])] at h
 rw [show rowB p cols r = (if (r.all fun a => decide (0 ≤ a ∧ a ≤ p - 1)) then decide ((r.length : Int) = cols) else false) from by
  unfold rowB elemsB
  cases (r.all fun a => decide (0 ≤ a ∧ a ≤ p - 1)) <;> simp]
 exact h
theorem spec_l03Ok_ev (p cols : Int) (rows : List (List Int)) (hl : rows.length ≤ 4611686018427387904) (hr : ∀ r ∈ rows, r.length ≤ 4611686018427387904) : Ev (fun k => spec_l03Ok.f k p cols rows) (validMB p cols rows) := by
 unfold spec_l03Ok.f validMB
 refine Ev.bind (spec_IsPrime_ev p) ?_
 have stop : Ev (fun k => spec_l03Ok.j0 k true p cols rows) false :=
  Ev.step (f := fun _ => some false) (fun k => by simp only [spec_l03Ok.j0, if_true]) (Ev.now _)
 cases hp : primeB p with
 | false => exact stop
 | true =>
  have hpr := primeB_range hp
  simp only [if_true, spec_l00In_eq, Option.bind_some, Bool.true_and]
  cases hc : decide (0 ≤ cols ∧ cols ≤ 12) with
  | false => exact stop
  | true =>
   simp only [if_true, Bool.true_and]
   by_cases h20 : (rows.length : Int) > 20
   ·rw [decide_eq_true h20, decide_eq_false (show ¬ rows.length ≤ 20 by omega), Bool.false_and]
    exact stop
   ·rw [decide_eq_false h20, decide_eq_true (show rows.length ≤ 20 by omega), Bool.true_and]
    refine Ev.step (f := fun k => spec_l03Ok.l0 k 0 p cols rows) (fun k => by simp only [spec_l03Ok.j0]; rw [if_neg (by decide)]) ?_
    have h := scan_ev (l := fun k i => spec_l03Ok.l0 k i p cols rows) (n := rows.length) (q := fun i => rowB p cols (rd_L1 rows i)) (fin := true) (stop := false)
     (fun i hi hq t ht => by
      refine Ev.step (f := fun k => (spec_l03Row.f k p cols (rd_L1 rows i)).bind fun t => if t = true then spec_l03Ok.l0 k ((i + 1 : Nat) : Int) p cols rows else some false) (fun k => ?_) (Ev.bind (spec_l03Row_ev p cols _ (by omega) (by rw [rdL_nat rows i hi]; exact hr _ (List.getElem_mem hi))) ?_)
      ·simp only [spec_l03Ok.l0]
       rw [if_pos (by omega), if_pos (by omega), wr (by omega) (by omega)]
       rfl
      ·simp only [hq, if_true]
       exact ht)
     (fun i hi hq => by
      refine Ev.step (f := fun k => (spec_l03Row.f k p cols (rd_L1 rows i)).bind fun t => if t = true then spec_l03Ok.l0 k ((i + 1 : Nat) : Int) p cols rows else some false) (fun k => ?_) (Ev.bind (spec_l03Row_ev p cols _ (by omega) (by rw [rdL_nat rows i hi]; exact hr _ (List.getElem_mem hi))) ?_)
      ·simp only [spec_l03Ok.l0]
       rw [if_pos (by omega), if_pos (by omega), wr (by omega) (by omega)]
       rfl
      ·simp only [hq]
       exact Ev.now _)
     (Ev.step (f := fun _ => some true) (fun k => by simp only [spec_l03Ok.l0]; rw [if_neg (by omega)]) (Ev.now _))
    rw [range_all rows (rowB p cols) _ (fun i hi => by simp only [rdL_nat rows i hi])] at h
    rw [show rows.all (rowB p cols) = (if rows.all (rowB p cols) then true else false) from by cases rows.all (rowB p cols) <;> rfl]
    exact h
theorem idxR_ev (p : Nat → List Int → Option Bool) (q : List Int → Bool) (xs : List (List Int)) (hlen : xs.length ≤ 4611686018427387904) (hp : ∀ x ∈ xs, Ev (fun k => p k x) (q x)) (hm : ∀ x k, LeO (p k x) (p (k + 1) x)) :
  ∀ d i : Nat, i + d = xs.length → ∃ r : Int, Ev (fun k => idxR.l0 k (p k) xs (i : Int)) r ∧ decide (0 ≤ r) = (xs.drop i).any q := by
 have up : ∀ {r : Int} {i : Int}, Ev (fun k => idxR.l0 k (p k) xs i) r → Ev (fun k => idxR.l0 k (p (k + 1)) xs i) r := by
  rintro r i ⟨K, h⟩
  exact ⟨K, fun k hk => idxR.mono_p _ _ _ _ _ (fun x => hm x k) r (h k hk)⟩
 have one : ∀ x ∈ xs, Ev (fun k => p (k + 1) x) (q x) := fun x hx => by
  obtain ⟨K, h⟩ := hp x hx
  exact ⟨K, fun k hk => h (k + 1) (by omega)⟩
 intro d
 induction d with
 | zero =>
  intro i hi
  refine ⟨-1, Ev.step (f := fun _ => some (-1)) (fun k => ?_) (Ev.now _), ?_⟩
  ·simp only [idxR.l0]
   rw [if_neg (by omega)]
  ·rw [List.drop_eq_nil_of_le (by omega)]; rfl
 | succ d ih =>
  intro i hi
  have hlt : i < xs.length := by omega
  obtain ⟨r, hr, hd⟩ := ih (i + 1) (by omega)
  have hx := one _ (List.getElem_mem hlt)
  rw [List.drop_eq_getElem_cons hlt, List.any_cons]
  have step : ∀ {r : Int}, Ev (fun k => (p (k + 1) xs[i]).bind fun t => if t = true then some (i : Int) else idxR.l0 k (p (k + 1)) xs ((i + 1 : Nat) : Int)) r → Ev (fun k => idxR.l0 k (p k) xs (i : Int)) r := fun h => by
   refine Ev.step (g := fun k => idxR.l0 k (p k) xs (i : Int)) (fun k => ?_) h
   simp only [idxR.l0]
   rw [if_pos (by omega), if_pos (by omega), rdL_nat xs i hlt, wr (by omega) (by omega)]
   rfl
  cases hq : q xs[i] with
  | true =>
   refine ⟨i, step (Ev.bind hx ?_), ?_⟩
   ·simp only [hq, if_true]; exact Ev.now _
   ·rw [Bool.true_or]; exact decide_eq_true (by omega)
  | false =>
   refine ⟨r, step (Ev.bind hx ?_), ?_⟩
   ·simp only [hq]; exact up hr
   ·rw [Bool.false_or]; exact hd
theorem hasR_ev (p : Nat → List Int → Option Bool) (q : List Int → Bool) (xs : List (List Int)) (hlen : xs.length ≤ 4611686018427387904) (hp : ∀ x ∈ xs, Ev (fun k => p k x) (q x)) (hm : ∀ x k, LeO (p k x) (p (k + 1) x)) : Ev (fun k => hasR.f k (p k) xs) (xs.any q) := by
 obtain ⟨r, hr, hd⟩ := idxR_ev p q xs hlen hp hm xs.length 0 (by omega)
 rw [List.drop_zero] at hd
 rw [← hd]
 exact Ev.bind hr (Ev.now _)
theorem not_any_all {α : Type} (l : List α) (q : α → Bool) : (!(l.any fun a => !q a)) = l.all q := by
 induction l with
 | nil => rfl
 | cons a l ih => rw [List.any_cons, List.all_cons, ← ih, Bool.not_or, Bool.not_not]
theorem impl_ValidMatrix_ev (p cols : Int) (rows : List (List Int)) (hl : rows.length ≤ 4611686018427387904) (hr : ∀ r ∈ rows, r.length ≤ 4611686018427387904) : Ev (fun k => impl_ValidMatrix.f k p cols rows) (validMB p cols rows) := by
 unfold impl_ValidMatrix.f validMB
 refine Ev.bind (impl_IsPrime_ev p) ?_
 cases hp : primeB p with
 | false => exact Ev.now _
 | true =>
  simp only [if_true, impl_within_eq, Option.bind_some, Bool.true_and]
  cases hc : decide (0 ≤ cols ∧ cols ≤ 12) with
  | false => exact Ev.now _
  | true =>
   simp only [if_true, Bool.true_and]
   by_cases h20 : (rows.length : Int) ≤ 20
   ·rw [decide_eq_true (show rows.length ≤ 20 by omega), Bool.true_and, ← not_any_all]
    simp only [if_pos h20]
    refine Ev.bind (hasR_ev (fun k => ValidMatrix_p k p cols) (fun r => !rowB p cols r) rows hl (fun r hrm => ?_) (fun x k => ValidMatrix_p.mono _ _ _ _)) (Ev.now _)
    unfold ValidMatrix_p rowB
    by_cases e : (r.length : Int) = cols
    ·simp only [if_pos e, decide_eq_true e, Bool.true_and]
     have := impl_areElements_ev p r (hr r hrm)
     rw [hp, Bool.true_and] at this
     exact Ev.bind this (Ev.now _)
    ·simp only [if_neg e, decide_eq_false e, Bool.false_and]
     exact Ev.now _
   ·rw [decide_eq_false (show ¬ rows.length ≤ 20 by omega), Bool.false_and]
    simp only [if_neg h20]
    exact Ev.now _
end Go.Proofs.YtijmdlhcidjpmaaDoor.P

namespace Go.Proofs.YtijmdlhcidjpmaaDoor.P
open Go.RowKit Go.Proofs.YtijmdlhcidjpmaaDoorW.PrintWords Go.Proofs.YtijmdlhcidjpmaaDoorW.PrintLast Go.Proofs.YtijmdlhcidjpmaaDoorW.PrintMore
attribute [local go_sem] max2_int min2_int max_two min_two max_three min_three max_four min_four
set_option linter.unusedVariables false
set_option linter.unusedSimpArgs false
def upFrom (a : Int) (n : Nat) : List Int := (List.range n).map fun i : Nat => a + (i : Int)
theorem upFrom_length (a : Int) (n : Nat) : (upFrom a n).length = n := by simp [upFrom]
theorem upFrom_succ (a : Int) (n : Nat) : upFrom a (n + 1) = upFrom a n ++ [a + (n : Int)] := by simp [upFrom, List.range_succ]
theorem markInt64S_ev (l : List Int) (a : Int) (ha : 0 ≤ a ∧ a ≤ 2147483648) (hl : l.length ≤ 4611686018427387904) : Ev (fun k => laws_markInt64S.f k l a) (a + (l.length : Int), upFrom a l.length) := by
 unfold laws_markInt64S.f
 have key : ∀ d i : Nat, i + d = l.length → Ev (fun k => laws_markInt64S.l0 k (upFrom a i ++ l.drop i) (a + (i : Int)) (i : Int)) (a + (l.length : Int), upFrom a l.length) := by
  intro d
  induction d with
  | zero =>
   intro i hi
   obtain rfl : i = l.length := by omega
   refine Ev.step (f := fun _ => some (a + (l.length : Int), upFrom a l.length)) (fun k => ?_) (Ev.now _)
   simp only [laws_markInt64S.l0]
   rw [if_neg (by simp [upFrom_length]), List.drop_length, List.append_nil]
  | succ d ih =>
   intro i hi
   have hlt : i < l.length := by omega
   refine Ev.step (fun k => ?_) (ih (i + 1) (by omega))
   simp only [laws_markInt64S.l0]
   rw [if_pos (by simp [upFrom_length]; omega), if_pos (by omega), wr (by omega) (by omega), wr (by omega) (by omega), Int.toNat_natCast, List.set_append_right _ _ (by rw [upFrom_length]; exact Nat.le_refl _), upFrom_length, Nat.sub_self, List.drop_eq_getElem_cons hlt, List.set_cons_zero, upFrom_succ, List.append_assoc]
   rw [show a + (i : Int) + 1 = a + ((i + 1 : Nat) : Int) by omega]
   rfl
 have := key l.length 0 (by omega)
 simpa [upFrom] using this
theorem heldInt64S_ev (a : Int) (n : Nat) (ha : 0 ≤ a ∧ a ≤ 2147483648) (hl : n ≤ 4611686018427387904) : Ev (fun k => laws_heldInt64S.f k (upFrom a n) a) (a + (n : Int)) := by
 unfold laws_heldInt64S.f
 have key : ∀ d i : Nat, i + d = n → Ev (fun k => laws_heldInt64S.l0 k (upFrom a n) (a + (i : Int)) (i : Int)) (a + (n : Int)) := by
  intro d
  induction d with
  | zero =>
   intro i hi
   obtain rfl : i = n := by omega
   refine Ev.step (f := fun _ => some (a + (i : Int))) (fun k => ?_) (Ev.now _)
   simp only [laws_heldInt64S.l0]
   rw [if_neg (by simp [upFrom_length])]
  | succ d ih =>
   intro i hi
   have hlt : i < (upFrom a n).length := by rw [upFrom_length]; omega
   refine Ev.step (fun k => ?_) (ih (i + 1) (by omega))
   simp only [laws_heldInt64S.l0]
   rw [if_pos (by simp [upFrom_length]; omega), if_pos (by omega), rd_nat _ i hlt, if_pos (by simp [upFrom]), wr (by omega) (by omega), wr (by omega) (by omega)]
   rw [show a + (i : Int) + 1 = a + ((i + 1 : Nat) : Int) by omega]
   rfl
 have := key n 0 (by omega)
 simpa using this
def preLen (rows : List (List Int)) (i : Nat) : Nat := ((rows.map List.length).take i).sum
def allLen (rows : List (List Int)) : Nat := (rows.map List.length).sum
def upRow (a : Int) (rows : List (List Int)) (i : Nat) : List Int := upFrom (a + (preLen rows i : Int)) ((rows.map List.length).getD i 0)
def upRows (a : Int) (rows : List (List Int)) : List (List Int) := (List.range rows.length).map (upRow a rows)
theorem preLen_succ (rows : List (List Int)) (i : Nat) (h : i < rows.length) : preLen rows (i + 1) = preLen rows i + rows[i].length := by
 have := sum_take_succ (rows.map List.length) i (by simpa using h)
 rwa [List.getElem_map] at this
theorem preLen_le (rows : List (List Int)) (i : Nat) : preLen rows i ≤ allLen rows := sum_take_le _ _
theorem preLen_end (rows : List (List Int)) : preLen rows rows.length = allLen rows := by
 unfold preLen allLen
 rw [List.take_of_length_le (by simp)]
theorem upRows_length (a : Int) (rows : List (List Int)) : (upRows a rows).length = rows.length := by simp [upRows]
theorem upRow_eq (a : Int) (rows : List (List Int)) (i : Nat) (h : i < rows.length) : upRow a rows i = upFrom (a + (preLen rows i : Int)) rows[i].length := by
 unfold upRow
 rw [List.getD_eq_getElem?_getD, List.getElem?_map, List.getElem?_eq_getElem h]
 rfl
theorem markInt64SS_ev (rows : List (List Int)) (a : Int) (ha : 0 ≤ a ∧ a ≤ 1073741824) (hl : rows.length ≤ 1073741824) (hs : allLen rows ≤ 1073741824) : Ev (fun k => laws_markInt64SS.f k rows a) (a + (allLen rows : Int), upRows a rows) := by
 unfold laws_markInt64SS.f
 have key : ∀ d i : Nat, i + d = rows.length → Ev (fun k => laws_markInt64SS.l0 k ((List.range i).map (upRow a rows) ++ rows.drop i) (a + (preLen rows i : Int)) (i : Int)) (a + (allLen rows : Int), upRows a rows) := by
  intro d
  induction d with
  | zero =>
   intro i hi
   obtain rfl : i = rows.length := by omega
   refine Ev.step (f := fun _ => some (a + (allLen rows : Int), upRows a rows)) (fun k => ?_) (Ev.now _)
   simp only [laws_markInt64SS.l0]
   rw [if_neg (by simp), List.drop_length, List.append_nil, preLen_end]
   rfl
  | succ d ih =>
   intro i hi
   have hlt : i < rows.length := by omega
   have hp := preLen_succ rows i hlt
   have hp2 := preLen_le rows (i + 1)
   have hrow : rd_L1 ((List.range i).map (upRow a rows) ++ rows.drop i) (i : Int) = rows[i] := by
    rw [rdL_nat _ i (by simp; omega), List.getElem_append_right (by simp)]
    simp
   refine Ev.step (f := fun k => (laws_markInt64S.f k rows[i] (a + (preLen rows i : Int))).bind fun t => laws_markInt64SS.l0 k (((List.range i).map (upRow a rows) ++ rows.drop i).set i t.2) t.1 ((i + 1 : Nat) : Int)) (fun k => ?_) (Ev.bind (markInt64S_ev rows[i] _ (by omega) (by omega)) ?_)
   ·simp only [laws_markInt64SS.l0]
    rw [if_pos (by simp; omega), if_pos (by omega), hrow, wr (by omega) (by omega), Int.toNat_natCast]
    rfl
   ·have e : ((List.range i).map (upRow a rows) ++ rows.drop i).set i (upFrom (a + (preLen rows i : Int)) rows[i].length) = (List.range (i + 1)).map (upRow a rows) ++ rows.drop (i + 1) := by
     rw [List.set_append_right _ _ (by simp), List.length_map, List.length_range, Nat.sub_self, List.drop_eq_getElem_cons hlt, List.set_cons_zero, List.range_succ, List.map_append, List.append_assoc, ← upRow_eq a rows i hlt]
     rfl
    simp only [e]
    rw [show a + (preLen rows i : Int) + (rows[i].length : Int) = a + (preLen rows (i + 1) : Int) by omega]
    exact ih (i + 1) (by omega)
 have := key rows.length 0 (by omega)
 simpa [preLen] using this
theorem heldInt64SS_ev (rows : List (List Int)) (a : Int) (ha : 0 ≤ a ∧ a ≤ 1073741824) (hl : rows.length ≤ 1073741824) (hs : allLen rows ≤ 1073741824) : Ev (fun k => laws_heldInt64SS.f k (upRows a rows) a) (a + (allLen rows : Int)) := by
 unfold laws_heldInt64SS.f
 have key : ∀ d i : Nat, i + d = rows.length → Ev (fun k => laws_heldInt64SS.l0 k (upRows a rows) (a + (preLen rows i : Int)) (i : Int)) (a + (allLen rows : Int)) := by
  intro d
  induction d with
  | zero =>
   intro i hi
   obtain rfl : i = rows.length := by omega
   refine Ev.step (f := fun _ => some (a + (allLen rows : Int))) (fun k => ?_) (Ev.now _)
   simp only [laws_heldInt64SS.l0]
   rw [if_neg (by simp [upRows_length]), preLen_end]
  | succ d ih =>
   intro i hi
   have hlt : i < rows.length := by omega
   have hp := preLen_succ rows i hlt
   have hp2 := preLen_le rows (i + 1)
   have hlt' : i < (upRows a rows).length := by rw [upRows_length]; exact hlt
   have hrow : rd_L1 (upRows a rows) (i : Int) = upFrom (a + (preLen rows i : Int)) rows[i].length := by
    rw [rdL_nat _ i hlt', ← upRow_eq a rows i hlt]
    simp [upRows]
   refine Ev.step (f := fun k => (laws_heldInt64S.f k (upFrom (a + (preLen rows i : Int)) rows[i].length) (a + (preLen rows i : Int))).bind fun t => if t < 0 then some (-1) else laws_heldInt64SS.l0 k (upRows a rows) t ((i + 1 : Nat) : Int)) (fun k => ?_) (Ev.bind (heldInt64S_ev (a + (preLen rows i : Int)) rows[i].length (by omega) (by omega)) ?_)
   ·simp only [laws_heldInt64SS.l0]
    rw [if_pos (by simp [upRows_length]; omega), if_pos (by omega), hrow, wr (by omega) (by omega)]
    rfl
   ·simp only [if_neg (show ¬ (a + (preLen rows i : Int) + (rows[i].length : Int) < 0) by omega)]
    rw [show a + (preLen rows i : Int) + (rows[i].length : Int) = a + (preLen rows (i + 1) : Int) by omega]
    exact ih (i + 1) (by omega)
 have := key rows.length 0 (by omega)
 simpa [preLen] using this
theorem markMatrix_ev (p c : Int) (rows : List (List Int)) (a : Int) (ha : 0 ≤ a ∧ a ≤ 1073741824) (hl : rows.length ≤ 1073741824) (hs : allLen rows ≤ 1073741824) : Ev (fun k => laws_markMatrix.f k p c rows a) (a + (allLen rows : Int), upRows a rows) := by
 unfold laws_markMatrix.f
 exact markInt64SS_ev rows a ha hl hs
theorem heldMatrix_ev (p c : Int) (rows : List (List Int)) (a : Int) (ha : 0 ≤ a ∧ a ≤ 1073741824) (hl : rows.length ≤ 1073741824) (hs : allLen rows ≤ 1073741824) : Ev (fun k => laws_heldMatrix.f k p c (upRows a rows) a) (a + (allLen rows : Int)) := by
 unfold laws_heldMatrix.f
 refine Ev.bind (heldInt64SS_ev rows a ha hl hs) ?_
 simp only [if_neg (show ¬ (a + (allLen rows : Int) < 0) by omega)]
 exact Ev.now _
theorem validMB_parts {p cols : Int} {rows : List (List Int)} (h : validMB p cols rows = true) : (2 ≤ p ∧ p ≤ 31) ∧ (0 ≤ cols ∧ cols ≤ 12) ∧ rows.length ≤ 20 ∧ (∀ i, i < rows.length → ((grp rows i).length : Int) = cols ∧ elemsB p (grp rows i) = true) := by
 unfold validMB at h
 simp only [Bool.and_eq_true, decide_eq_true_eq] at h
 refine ⟨primeB_range h.1, h.2.1, h.2.2.1, fun i hi => ?_⟩
 have := List.all_eq_true.mp h.2.2.2 rows[i] (List.getElem_mem hi)
 unfold rowB at this
 simp only [Bool.and_eq_true, decide_eq_true_eq] at this
 rw [show grp rows i = rows[i] from by simp [grp, hi]]
 exact this
end Go.Proofs.YtijmdlhcidjpmaaDoor.P
