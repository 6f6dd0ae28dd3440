/- For any two byte lists the law of spanned lists, combinations and solutions answers true. This text: the theorem of the row, and part 5 of what it rests on. -/
import Derived.Test.YtjpbemomocccaaaCFnCombinationd
import Derived.Below
import Derived.ChangeOld
import Derived.Laws.Bits64b
import Derived.OpenShut
import Derived.ProofKit
import Derived.ShutString
import Derived.SizedLaws
import Derived.Test.YtjpbemomocccaaaCFnCombinationWSizedw
import Derived.Test.YtjpbemomocccaaaRows
import Derived.WalkKit
namespace Go.Proofs.Ytjpbemomocccaaa.P
open Go.RowKit Go.Proofs.YtjpbemomocccaaaW.PrintWords Go.Proofs.YtjpbemomocccaaaW.PrintLast Go.Proofs.YtjpbemomocccaaaW.PrintMore
attribute [local go_sem] max2_int min2_int max_two min_two max_three min_three max_four min_four
set_option linter.unusedVariables false
set_option linter.unusedSimpArgs false

/-! ### spec_l03Solve: function 76 (by hand) -/
end Go.Proofs.Ytjpbemomocccaaa.P

namespace Go.Proofs.Ytjpbemomocccaaa.P
open Go.RowKit Go.Proofs.YtjpbemomocccaaaW.PrintWords Go.Proofs.YtjpbemomocccaaaW.PrintLast Go.Proofs.YtjpbemomocccaaaW.PrintMore
attribute [local go_sem] max2_int min2_int max_two min_two max_three min_three max_four min_four
set_option linter.unusedVariables false
set_option linter.unusedSimpArgs false

/-! ### spec_SolveFor: function 33 -/
end Go.Proofs.Ytjpbemomocccaaa.P

namespace Go.Proofs.Ytjpbemomocccaaa.P
open Go.RowKit Go.Proofs.YtjpbemomocccaaaW.PrintWords Go.Proofs.YtjpbemomocccaaaW.PrintLast Go.Proofs.YtjpbemomocccaaaW.PrintMore
attribute [local go_sem] max2_int min2_int max_two min_two max_three min_three max_four min_four
set_option linter.unusedVariables false
set_option linter.unusedSimpArgs false

/-- z has the product 0 with all rows. -/
def dotZ (C : Nat) (r : List Int) (z : Nat → Int) : Int := sumN C (fun j => elm r j * z j)
def KerP (p : Int) (C : Nat) (A : List (List Int)) (z : Nat → Int) : Prop := ∀ i, i < A.length → Eqm p (dotZ C (grp A i) z) 0
theorem dotZ_lin {p : Int} {C : Nat} {r s q : List Int} {t : Int} {z : Nat → Int} (h : ∀ j, Eqm p (elm q j) (elm r j + elm s j * t)) : Eqm p (dotZ C q z) (dotZ C r z + t * dotZ C s z) := by
  unfold dotZ
  rw [← sumN_mul, ← sumN_add]
  exact Eqm.sumN_ fun j _ => (Eqm.mul (h j) (Eqm.rfl_ p (z j))).trans (Eqm.of_eq (by grind))
theorem dotZ_mul {p : Int} {C : Nat} {r q : List Int} {t : Int} {z : Nat → Int} (h : ∀ j, Eqm p (elm q j) (elm r j * t)) : Eqm p (dotZ C q z) (t * dotZ C r z) := by
  unfold dotZ
  rw [← sumN_mul]
  exact Eqm.sumN_ fun j _ => (Eqm.mul (h j) (Eqm.rfl_ p (z j))).trans (Eqm.of_eq (by grind))
theorem ker_step {p : Int} {C c n a : Nat} {A B : List (List Int)} {z : Nat → Int} (h : StepR p C c n a A B) (hn : n < A.length) (ha : a < A.length) (hx : Eqm p (elm (grp A a) c * invB p (elm (grp A a) c)) 1) : KerP p C A z ↔ KerP p C B z := by
  have hBn := dotZ_mul (C := C) (z := z) h.at_n
  constructor
  · intro hA i hi
    rw [h.len] at hi
    have hb : Eqm p (dotZ C (grp B n) z) 0 := hBn.trans ((Eqm.mul (Eqm.rfl_ p _) (hA a ha)).trans (Eqm.of_eq (by simp)))
    by_cases hin : i = n
    · rw [hin]; exact hb
    · have h1 := dotZ_lin (C := C) (z := z) (h.other i hi hin)
      have hi2 : (if i = a then n else i) < A.length := by split; exact hn; exact hi
      exact h1.trans ((Eqm.add (hA _ hi2) (Eqm.mul (Eqm.rfl_ p _) hb)).trans (Eqm.of_eq (by simp)))
  · intro hB i hi
    have hb := hB n (by rw [h.len]; exact hn)
    have haz : Eqm p (dotZ C (grp A a) z) 0 := by
      have h1 := Eqm.mul (Eqm.rfl_ p (elm (grp A a) c)) (hBn.symm.trans hb)
      have h2 := Eqm.mul hx (Eqm.rfl_ p (dotZ C (grp A a) z))
      exact ((Eqm.of_eq (by grind)).trans h2.symm).trans ((Eqm.of_eq (by grind)).trans (h1.trans (Eqm.of_eq (by simp))))
    by_cases hia : i = a
    · rw [hia]; exact haz
    · have hk : (if i = n then a else i) ≠ n := by by_cases h2 : i = n <;> simp [h2] <;> omega
      have hk2 : (if i = n then a else i) < A.length := by split; exact ha; exact hi
      have hk3 : (if (if i = n then a else i) = a then n else (if i = n then a else i)) = i := by
        by_cases h2 : i = n
        · rw [if_pos h2, if_pos rfl, h2]
        · rw [if_neg h2, if_neg hia]
      have h1 := dotZ_lin (C := C) (z := z) (h.other _ hk2 hk)
      rw [hk3] at h1
      have h3 := hB _ (by rw [h.len]; exact hk2)
      have h4 := Eqm.sub (h1.symm.trans h3) (Eqm.mul (Eqm.rfl_ p (p - elm (grp A i) c)) hb)
      exact (Eqm.of_eq (by grind)).trans (h4.trans (Eqm.of_eq (by grind)))
/-- What is known of the rows and the columns of their first elements, behind the columns below c. -/
structure RrefP (p : Int) (C c : Nat) (s : List (List Int) × List Int) : Prop where
  zero : ∀ i, s.2.length ≤ i → i < s.1.length → ∀ j, j < c → elm (grp s.1 i) j = 0
  lt : ∀ k, k < s.2.length → 0 ≤ rd s.2 (k : Int) ∧ rd s.2 (k : Int) < (c : Int)
  incr : ∀ k l, k < l → l < s.2.length → rd s.2 (k : Int) < rd s.2 (l : Int)
  delta : ∀ k, k < s.2.length → ∀ i, i < s.1.length → elm (grp s.1 i) (rd s.2 (k : Int)).toNat = if i = k then 1 else 0
  left : ∀ k, k < s.2.length → ∀ j, j < (rd s.2 (k : Int)).toNat → elm (grp s.1 k) j = 0
theorem elm_range {p : Int} {C : Nat} {A : List (List Int)} (hp : 2 ≤ p) (h : MatP p C A) (i j : Nat) (hi : i < A.length) : 0 ≤ elm (grp A i) j ∧ elm (grp A i) j ≤ p - 1 := (h i hi).2 j
theorem rd_snoc (l : List Int) (x : Int) (k : Nat) : rd (l ++ [x]) (k : Int) = if k < l.length then rd l (k : Int) else if k = l.length then x else 0 := by
  rw [rd_cast, rd_cast, List.getD_eq_getElem?_getD, List.getD_eq_getElem?_getD]
  by_cases h : k < l.length
  · rw [if_pos h, List.getElem?_append_left h]
  · rw [if_neg h, List.getElem?_append_right (by omega)]
    by_cases h2 : k = l.length
    · rw [if_pos h2, h2]; simp
    · rw [if_neg h2, List.getElem?_eq_none (by simp; omega)]; rfl
theorem rref_step {p : Int} {C c : Nat} {s : List (List Int) × List Int} (hpr : primeB p = true) (hE : EchP p C s) (hR : RrefP p C c s) : RrefP p C (c + 1) (stepB p s c) := by
  have hp := primeB_range hpr
  have hE2 := step_ech hp.1 hE c
  obtain ⟨g1, g2, g3, g4⟩ := findN_le (rows := s.1) (c := c) (s.1.length - s.2.length) s.2.length (by have := hE.le; omega)
  by_cases ha : findN s.1 c s.2.length < s.1.length
  · obtain ⟨hS, hP, hle⟩ := step_found hp.1 hE ha
    have hlen := step_length p s c
    have hn : s.2.length < s.1.length := by omega
    have hx := inv_eqm hpr ((hE.mat _ ha).2 c) (g3 ha)
    have one : (1 : Int) ≤ p - 1 := by omega
    have rng : ∀ i j, i < s.1.length → 0 ≤ elm (grp (stepB p s c).1 i) j ∧ elm (grp (stepB p s c).1 i) j ≤ p - 1 := fun i j hi => elm_range hp.1 hE2.mat i j (by rw [hlen]; exact hi)
    -- row n: 0 ahead of c, 1 at c
    have hn0 : ∀ j, j < c → elm (grp (stepB p s c).1 s.2.length) j = 0 := fun j hj => by
      refine Eqm.eq_of ((hS.at_n j).trans ?_) (rng _ _ hn) (by omega)
      rw [hR.zero _ hle ha j hj]
      exact Eqm.of_eq (by simp)
    have hn1 : elm (grp (stepB p s c).1 s.2.length) c = 1 := Eqm.eq_of ((hS.at_n c).trans hx) (rng _ _ hn) (by omega)
    -- the others
    have ho : ∀ i, i < s.1.length → i ≠ s.2.length → ∀ j, j < c → elm (grp (stepB p s c).1 i) j = elm (grp s.1 (if i = findN s.1 c s.2.length then s.2.length else i)) j := fun i hi hin j hj => by
      have hi2 : (if i = findN s.1 c s.2.length then s.2.length else i) < s.1.length := by split <;> omega
      refine Eqm.eq_of ((hS.other i hi hin j).trans ?_) (rng _ _ hi) (elm_range hp.1 hE.mat _ _ hi2)
      rw [hn0 j hj]
      exact Eqm.of_eq (by simp)
    have hoc : ∀ i, i < s.1.length → i ≠ s.2.length → elm (grp (stepB p s c).1 i) c = 0 := fun i hi hin => by
      refine Eqm.eq_of ((hS.other i hi hin c).trans ?_) (rng _ _ hi) (by omega)
      rw [hn1]
      exact (Eqm.of_eq (by grind)).trans (Eqm.p_ p)
    have hps : ∀ k : Nat, rd (stepB p s c).2 (k : Int) = if k < s.2.length then rd s.2 (k : Int) else if k = s.2.length then (c : Int) else 0 := fun k => by rw [hP]; exact rd_snoc _ _ _
    have hpl : (stepB p s c).2.length = s.2.length + 1 := by rw [hP]; simp
    refine ⟨fun i h1 h2 j hj => ?_, fun k hk => ?_, fun k l hkl hl => ?_, fun k hk i hi => ?_, fun k hk j hj => ?_⟩
    · rw [hpl] at h1
      rw [hlen] at h2
      by_cases hjc : j = c
      · rw [hjc]; exact hoc i h2 (by omega)
      · rw [ho i h2 (by omega) j (by omega)]
        exact hR.zero _ (by split <;> omega) (by split <;> omega) j (by omega)
    · rw [hpl] at hk
      rw [hps]
      by_cases hk2 : k < s.2.length
      · rw [if_pos hk2]; have := hR.lt k hk2; omega
      · rw [if_neg hk2, if_pos (by omega)]; omega
    · rw [hpl] at hl
      rw [hps, hps, if_pos (by omega)]
      by_cases hl2 : l < s.2.length
      · rw [if_pos hl2]; exact hR.incr k l hkl hl2
      · rw [if_neg hl2, if_pos (by omega)]; exact (hR.lt k (by omega)).2
    · rw [hpl] at hk
      rw [hlen] at hi
      rw [hps]
      by_cases hk2 : k < s.2.length
      · have hl := hR.lt k hk2
        rw [if_pos hk2]
        by_cases hin : i = s.2.length
        · rw [hin, hn0 _ (by omega), if_neg (by omega)]
        · rw [ho i hi hin _ (by omega), hR.delta k hk2 _ (by split <;> omega)]
          by_cases hia : i = findN s.1 c s.2.length
          · rw [if_pos hia, if_neg (by omega), if_neg (by omega)]
          · rw [if_neg hia]
      · rw [if_neg hk2, if_pos (by omega), Int.toNat_natCast]
        by_cases hin : i = s.2.length
        · rw [if_pos (by omega), hin]; exact hn1
        · rw [if_neg (by omega)]; exact hoc i hi hin
    · rw [hpl] at hk
      rw [hps] at hj
      by_cases hk2 : k < s.2.length
      · rw [if_pos hk2] at hj
        have hl := hR.lt k hk2
        rw [ho k (by omega) (by omega) j (by omega), if_neg (by omega)]
        exact hR.left k hk2 j hj
      · rw [if_neg hk2, if_pos (by omega), Int.toNat_natCast] at hj
        rw [show k = s.2.length by omega]
        exact hn0 j hj
  · have e : stepB p s c = s := by unfold stepB; rw [if_neg ha]
    rw [e]
    refine ⟨fun i h1 h2 j hj => ?_, fun k hk => by have := hR.lt k hk; omega, hR.incr, hR.delta, hR.left⟩
    by_cases hjc : j = c
    · rw [hjc]; exact g4 i h1 (by omega)
    · exact hR.zero i h1 h2 j (by omega)
theorem rref_fold {p : Int} {C : Nat} (hpr : primeB p = true) : ∀ (d c : Nat) (s : List (List Int) × List Int), EchP p C s → RrefP p C c s → RrefP p C (c + d) ((List.range' c d).foldl (stepB p) s) := by
  intro d
  induction d with
  | zero => intro c s _ h; exact h
  | succ d ih =>
    intro c s hE hR
    rw [List.range'_succ, List.foldl_cons]
    have := ih (c + 1) _ (step_ech (primeB_range hpr).1 hE c) (rref_step hpr hE hR)
    rwa [show c + 1 + d = c + (d + 1) by omega] at this
theorem rref_start (p : Int) (C : Nat) (rows : List (List Int)) : RrefP p C 0 (rows, []) :=
  ⟨fun i _ _ j hj => by omega, fun k hk => by simp at hk, fun k l _ hl => by simp at hl, fun k hk => by simp at hk, fun k hk => by simp at hk⟩
theorem full_rref {p : Int} {C : Nat} {rows : List (List Int)} (hpr : primeB p = true) (hM : MatP p C rows) (hl : rows.length ≤ 1000) : RrefP p C C (fullB p C rows) := by
  have := rref_fold hpr C 0 (rows, []) ⟨hM, Nat.zero_le _, hl⟩ (rref_start p C rows)
  rw [Nat.zero_add, ← List.range_eq_range'] at this
  exact this
theorem ker_fold {p : Int} {C : Nat} {z : Nat → Int} (hpr : primeB p = true) : ∀ (l : List Nat) (s : List (List Int) × List Int), EchP p C s → (KerP p C s.1 z ↔ KerP p C (l.foldl (stepB p) s).1 z) := by
  intro l
  induction l with
  | nil => intro s _; exact Iff.rfl
  | cons c l ih =>
    intro s hE
    refine Iff.trans ?_ (ih _ (step_ech (primeB_range hpr).1 hE c))
    by_cases ha : findN s.1 c s.2.length < s.1.length
    · obtain ⟨hS, _, hle⟩ := step_found (primeB_range hpr).1 hE ha
      obtain ⟨g1, g2, g3, g4⟩ := findN_le (rows := s.1) (c := c) (s.1.length - s.2.length) s.2.length (by have := hE.le; omega)
      exact ker_step hS (by omega) ha (inv_eqm hpr ((hE.mat _ ha).2 c) (g3 ha))
    · unfold stepB; rw [if_neg ha]
theorem full_ker {p : Int} {C : Nat} {rows : List (List Int)} {z : Nat → Int} (hpr : primeB p = true) (hM : MatP p C rows) (hl : rows.length ≤ 1000) : KerP p C rows z ↔ KerP p C (fullB p C rows).1 z := ker_fold hpr (List.range C) (rows, []) ⟨hM, Nat.zero_le _, hl⟩

end Go.Proofs.Ytjpbemomocccaaa.P

namespace Go.Proofs.Ytjpbemomocccaaa.P
open Go.RowKit Go.Proofs.YtjpbemomocccaaaW.PrintWords Go.Proofs.YtjpbemomocccaaaW.PrintLast Go.Proofs.YtjpbemomocccaaaW.PrintMore
attribute [local go_sem] max2_int min2_int max_two min_two max_three min_three max_four min_four
set_option linter.unusedVariables false
set_option linter.unusedSimpArgs false

/-! ### slices_Index_int_int: function 113 -/
end Go.Proofs.Ytjpbemomocccaaa.P

namespace Go.Proofs.Ytjpbemomocccaaa.P
open Go.RowKit Go.Proofs.YtjpbemomocccaaaW.PrintWords Go.Proofs.YtjpbemomocccaaaW.PrintLast Go.Proofs.YtjpbemomocccaaaW.PrintMore
attribute [local go_sem] max2_int min2_int max_two min_two max_three min_three max_four min_four
set_option linter.unusedVariables false
set_option linter.unusedSimpArgs false

/-! ### spec_l00Has: function 96 -/
end Go.Proofs.Ytjpbemomocccaaa.P

namespace Go.Proofs.Ytjpbemomocccaaa.P
open Go.RowKit Go.Proofs.YtjpbemomocccaaaW.PrintWords Go.Proofs.YtjpbemomocccaaaW.PrintLast Go.Proofs.YtjpbemomocccaaaW.PrintMore
attribute [local go_sem] max2_int min2_int max_two min_two max_three min_three max_four min_four
set_option linter.unusedVariables false
set_option linter.unusedSimpArgs false

/-! ### spec_l03Kernel: function 56 -/
end Go.Proofs.Ytjpbemomocccaaa.P

namespace Go.Proofs.Ytjpbemomocccaaa.P
open Go.RowKit Go.Proofs.YtjpbemomocccaaaW.PrintWords Go.Proofs.YtjpbemomocccaaaW.PrintLast Go.Proofs.YtjpbemomocccaaaW.PrintMore
attribute [local go_sem] max2_int min2_int max_two min_two max_three min_three max_four min_four
set_option linter.unusedVariables false
set_option linter.unusedSimpArgs false

/-! ### spec_KernelOf: function 19 -/
end Go.Proofs.Ytjpbemomocccaaa.P

namespace Go.Proofs.Ytjpbemomocccaaa.P
open Go.RowKit Go.Proofs.YtjpbemomocccaaaW.PrintWords Go.Proofs.YtjpbemomocccaaaW.PrintLast Go.Proofs.YtjpbemomocccaaaW.PrintMore
attribute [local go_sem] max2_int min2_int max_two min_two max_three min_three max_four min_four
set_option linter.unusedVariables false
set_option linter.unusedSimpArgs false

/-! ### slices_Contains_int_int: function 97 -/
end Go.Proofs.Ytjpbemomocccaaa.P

namespace Go.Proofs.Ytjpbemomocccaaa.P
open Go.RowKit Go.Proofs.YtjpbemomocccaaaW.PrintWords Go.Proofs.YtjpbemomocccaaaW.PrintLast Go.Proofs.YtjpbemomocccaaaW.PrintMore
attribute [local go_sem] max2_int min2_int max_two min_two max_three min_three max_four min_four
set_option linter.unusedVariables false
set_option linter.unusedSimpArgs false

/-! ### impl_Matrix_kernel: function 58 -/
end Go.Proofs.Ytjpbemomocccaaa.P

namespace Go.Proofs.Ytjpbemomocccaaa.P
open Go.RowKit Go.Proofs.YtjpbemomocccaaaW.PrintWords Go.Proofs.YtjpbemomocccaaaW.PrintLast Go.Proofs.YtjpbemomocccaaaW.PrintMore
attribute [local go_sem] max2_int min2_int max_two min_two max_three min_three max_four min_four
set_option linter.unusedVariables false
set_option linter.unusedSimpArgs false

/-! ### impl_KernelOf: function 20 -/
end Go.Proofs.Ytjpbemomocccaaa.P

namespace Go.Proofs.Ytjpbemomocccaaa.P
open Go.RowKit Go.Proofs.YtjpbemomocccaaaW.PrintWords Go.Proofs.YtjpbemomocccaaaW.PrintLast Go.Proofs.YtjpbemomocccaaaW.PrintMore
attribute [local go_sem] max2_int min2_int max_two min_two max_three min_three max_four min_four
set_option linter.unusedVariables false
set_option linter.unusedSimpArgs false

theorem step_piv {p : Int} {C : Nat} {s : List (List Int) × List Int} {c : Nat} (hc : c < C) (h : ∀ x ∈ s.2, 0 ≤ x ∧ x < (C : Int)) : ∀ x ∈ (stepB p s c).2, 0 ≤ x ∧ x < (C : Int) := by
  unfold stepB
  split
  · intro x hx
    rcases List.mem_append.mp hx with hx | hx
    · exact h x hx
    · obtain rfl := List.mem_singleton.mp hx; omega
  · exact h
theorem fold_piv {p : Int} {C : Nat} : ∀ (l : List Nat) (s : List (List Int) × List Int), (∀ c ∈ l, c < C) → (∀ x ∈ s.2, 0 ≤ x ∧ x < (C : Int)) → ∀ x ∈ (l.foldl (stepB p) s).2, 0 ≤ x ∧ x < (C : Int) := by
  intro l
  induction l with
  | nil => intro s _ h; exact h
  | cons c l ih => intro s hl h; exact ih _ (fun c' hc' => hl c' (List.mem_cons_of_mem _ hc')) (step_piv (hl c (List.mem_cons_self ..)) h)
theorem ech_piv (p : Int) (C : Nat) (rows : List (List Int)) : ∀ x ∈ (echB p C rows).2, 0 ≤ x ∧ x < (C : Int) := fold_piv _ _ (fun c hc => List.mem_range.mp hc) (by simp)
theorem ech_piv_at (p : Int) (C : Nat) (rows : List (List Int)) (i : Nat) (hi : i < (echB p C rows).2.length) : 0 ≤ (echB p C rows).2.getD i 0 ∧ (echB p C rows).2.getD i 0 < (C : Int) := by
  rw [List.getD_eq_getElem?_getD, List.getElem?_eq_getElem hi]
  exact ech_piv p C rows _ (List.getElem_mem hi)
theorem RowP_set {p : Int} {C n : Nat} {r : List Int} {v : Int} (h : RowP p C r) (hn : n < C) (hv : 0 ≤ v ∧ v ≤ p - 1) : RowP p C (r.set n v) := by
  refine ⟨by rw [List.length_set]; exact h.1, fun j => ?_⟩
  rw [getD_set _ _ _ _ _ (by rw [h.1]; exact hn)]
  split
  · exact hv
  · exact h.2 j
theorem RowP_zero {p : Int} (hp : 2 ≤ p) (C : Nat) : RowP p C (List.replicate C 0) := by
  refine ⟨by simp, fun j => ?_⟩
  have : (List.replicate C (0 : Int)).getD j 0 = 0 := by
    rw [List.getD_eq_getElem?_getD, List.getElem?_replicate]
    split <;> rfl
  rw [this]; omega
end Go.Proofs.Ytjpbemomocccaaa.P

namespace Go.Proofs.Ytjpbemomocccaaa.P
open Go.RowKit Go.Proofs.YtjpbemomocccaaaW.PrintWords Go.Proofs.YtjpbemomocccaaaW.PrintLast Go.Proofs.YtjpbemomocccaaaW.PrintMore
attribute [local go_sem] max2_int min2_int max_two min_two max_three min_three max_four min_four
set_option linter.unusedVariables false
set_option linter.unusedSimpArgs false

theorem getD_take {α : Type} (l : List α) (n j : Nat) (d : α) : (l.take n).getD j d = if j < n then l.getD j d else d := by
  rw [List.getD_eq_getElem?_getD, List.getElem?_take]
  split
  · rw [List.getD_eq_getElem?_getD]
  · rfl
theorem getD_append {α : Type} (a b : List α) (j : Nat) (d : α) : (a ++ b).getD j d = if j < a.length then a.getD j d else b.getD (j - a.length) d := by
  rw [List.getD_eq_getElem?_getD]
  split
  · rename_i h; rw [List.getElem?_append_left h, List.getD_eq_getElem?_getD]
  · rename_i h; rw [List.getElem?_append_right (by omega), List.getD_eq_getElem?_getD]
def unitB (n i : Nat) : List Int := (List.replicate n 0).set i 1
theorem unitB_getD {n i j : Nat} (hi : i < n) : (unitB n i).getD j 0 = if j = i then 1 else 0 := by
  unfold unitB
  rw [getD_set _ _ _ _ _ (by simpa using hi)]
  split
  · rfl
  · rw [List.getD_eq_getElem?_getD, List.getElem?_replicate]; split <;> rfl
theorem RowP_append {p : Int} {C D : Nat} {r s : List Int} (h : RowP p C r) (h2 : RowP p D s) : RowP p (C + D) (r ++ s) := by
  refine ⟨by rw [List.length_append, h.1, h2.1], fun j => ?_⟩
  rw [getD_append]
  split
  · exact h.2 j
  · exact h2.2 _
end Go.Proofs.Ytjpbemomocccaaa.P

namespace Go.Proofs.Ytjpbemomocccaaa.P
open Go.RowKit Go.Proofs.YtjpbemomocccaaaW.PrintWords Go.Proofs.YtjpbemomocccaaaW.PrintLast Go.Proofs.YtjpbemomocccaaaW.PrintMore
attribute [local go_sem] max2_int min2_int max_two min_two max_three min_three max_four min_four
set_option linter.unusedVariables false
set_option linter.unusedSimpArgs false

/-! ### spec_l03Rank: function 59 -/
end Go.Proofs.Ytjpbemomocccaaa.P

namespace Go.Proofs.Ytjpbemomocccaaa.P
open Go.RowKit Go.Proofs.YtjpbemomocccaaaW.PrintWords Go.Proofs.YtjpbemomocccaaaW.PrintLast Go.Proofs.YtjpbemomocccaaaW.PrintMore
attribute [local go_sem] max2_int min2_int max_two min_two max_three min_three max_four min_four
set_option linter.unusedVariables false
set_option linter.unusedSimpArgs false

/-! ### spec_l03Unit: function 60 -/
end Go.Proofs.Ytjpbemomocccaaa.P

namespace Go.Proofs.Ytjpbemomocccaaa.P
open Go.RowKit Go.Proofs.YtjpbemomocccaaaW.PrintWords Go.Proofs.YtjpbemomocccaaaW.PrintLast Go.Proofs.YtjpbemomocccaaaW.PrintMore
attribute [local go_sem] max2_int min2_int max_two min_two max_three min_three max_four min_four
set_option linter.unusedVariables false
set_option linter.unusedSimpArgs false

/-! ### spec_InverseOf: function 21 -/
end Go.Proofs.Ytjpbemomocccaaa.P

namespace Go.Proofs.Ytjpbemomocccaaa.P
open Go.RowKit Go.Proofs.YtjpbemomocccaaaW.PrintWords Go.Proofs.YtjpbemomocccaaaW.PrintLast Go.Proofs.YtjpbemomocccaaaW.PrintMore
attribute [local go_sem] max2_int min2_int max_two min_two max_three min_three max_four min_four
set_option linter.unusedVariables false
set_option linter.unusedSimpArgs false

/-! ### impl_Matrix_isSquare: function 63 -/
end Go.Proofs.Ytjpbemomocccaaa.P

namespace Go.Proofs.Ytjpbemomocccaaa.P
open Go.RowKit Go.Proofs.YtjpbemomocccaaaW.PrintWords Go.Proofs.YtjpbemomocccaaaW.PrintLast Go.Proofs.YtjpbemomocccaaaW.PrintMore
attribute [local go_sem] max2_int min2_int max_two min_two max_three min_three max_four min_four
set_option linter.unusedVariables false
set_option linter.unusedSimpArgs false

/-! ### impl_InverseOf: function 22 -/
end Go.Proofs.Ytjpbemomocccaaa.P

namespace Go.Proofs.Ytjpbemomocccaaa.P
open Go.RowKit Go.Proofs.YtjpbemomocccaaaW.PrintWords Go.Proofs.YtjpbemomocccaaaW.PrintLast Go.Proofs.YtjpbemomocccaaaW.PrintMore
attribute [local go_sem] max2_int min2_int max_two min_two max_three min_three max_four min_four
set_option linter.unusedVariables false
set_option linter.unusedSimpArgs false

theorem prime_of_valid {p cols : Int} {rows : List (List Int)} (h : validMB p cols rows = true) : primeB p = true := by
  unfold validMB at h
  simp only [Bool.and_eq_true] at h
  exact h.1
end Go.Proofs.Ytjpbemomocccaaa.P

namespace Go.Proofs.Ytjpbemomocccaaa.P
open Go.RowKit Go.Proofs.YtjpbemomocccaaaW.PrintWords Go.Proofs.YtjpbemomocccaaaW.PrintLast Go.Proofs.YtjpbemomocccaaaW.PrintMore
attribute [local go_sem] max2_int min2_int max_two min_two max_three min_three max_four min_four
set_option linter.unusedVariables false
set_option linter.unusedSimpArgs false

/-- The rows with one more column: l. -/
def besideOne (rows : List (List Int)) (l : List Int) : List (List Int) := (List.range rows.length).map fun i => grp rows i ++ [l.getD i 0]
theorem besideOne_length (rows : List (List Int)) (l : List Int) : (besideOne rows l).length = rows.length := by simp [besideOne]
theorem besideOne_grp {rows : List (List Int)} {l : List Int} {i : Nat} (hi : i < rows.length) : grp (besideOne rows l) i = grp rows i ++ [l.getD i 0] := by
  unfold besideOne grp
  exact getD_map _ _ _ _ hi
theorem RowP_list {p : Int} {l : List Int} (hp : 2 ≤ p) (h : elemsB p l = true) : RowP p l.length l := by
  refine ⟨rfl, fun j => ?_⟩
  by_cases hj : j < l.length
  · have := elemsB_get h j hj
    rw [List.getD_eq_getElem?_getD, List.getElem?_eq_getElem hj]
    exact this
  · rw [List.getD_eq_getElem?_getD, List.getElem?_eq_none (by omega)]
    show 0 ≤ (0 : Int) ∧ (0 : Int) ≤ p - 1
    omega
theorem besideOne_mat {p : Int} {C : Nat} {rows : List (List Int)} {l : List Int} (hp : 2 ≤ p) (hM : MatP p C rows) (he : RowP p rows.length l) : MatP p (C + 1) (besideOne rows l) := by
  intro i hi
  rw [besideOne_length] at hi
  rw [besideOne_grp hi]
  refine RowP_append (hM i hi) ⟨rfl, fun j => ?_⟩
  cases j with
  | zero => exact he.2 i
  | succ j => show 0 ≤ (0 : Int) ∧ (0 : Int) ≤ p - 1; omega
def solGo (C : Nat) (E : List (List Int)) (piv : List Int) : Nat → Nat → List Int → List Int × Bool
  | 0, _, out => (out, true)
  | d + 1, i, out => if rd piv (i : Int) = (C : Int) then ([], false) else solGo C E piv d (i + 1) (out.set (rd piv (i : Int)).toNat (rd (grp E i) (C : Int)))
theorem impl_sol_go {p a b c : Int} {C : Nat} {rows E : List (List Int)} {piv : List Int} (hC : C ≤ 1000) (hE : MatP p (C + 1) E) (hlen : E.length = piv.length) (hl : piv.length ≤ 1000) (hpiv : ∀ j : Nat, j < piv.length → 0 ≤ rd piv (j : Int) ∧ rd piv (j : Int) < (C : Int) + 1) :
    ∀ (d i : Nat) (out : List Int), i + d = piv.length → out.length = C → Ev (fun k => impl_Matrix_solve.l1 k out piv (piv.length : Int) (i : Int) a (C : Int) rows b c E) (solGo C E piv d i out) := by
  intro d
  induction d with
  | zero =>
    intro i out hi ho
    refine Ev.step (f := fun _ => some (out, true)) (fun k => ?_) (Ev.now _)
    simp only [impl_Matrix_solve.l1]
    rw [if_neg (by omega)]
  | succ d ih =>
    intro i out hi ho
    have hpi := hpiv i (by omega)
    have hEl := (hE i (by omega)).1
    unfold solGo
    by_cases h : rd piv (i : Int) = (C : Int)
    · rw [if_pos h]
      refine Ev.step (f := fun _ => some ([], false)) (fun k => ?_) (Ev.now _)
      simp only [impl_Matrix_solve.l1]
      rw [if_pos (by omega), if_pos (by omega), if_pos (by omega), if_pos h]
    · rw [if_neg h]
      refine Ev.step (fun k => ?_) (ih (i + 1) _ (by omega) (by rw [List.length_set]; exact ho))
      simp only [impl_Matrix_solve.l1]
      rw [if_pos (by omega), if_pos (by omega), if_pos (by omega), if_neg h, if_pos (by omega), if_pos (by omega), rdL_cast, if_pos (by omega), if_pos (by omega), if_pos (by omega), wr (by omega) (by omega)]
      rfl
/-- The list whose products with all rows are l's. -/
def solveB (p : Int) (C : Nat) (rows : List (List Int)) (l : List Int) : List Int × Bool := solGo C (echB p (C + 1) (besideOne rows l)).1 (echB p (C + 1) (besideOne rows l)).2 (echB p (C + 1) (besideOne rows l)).2.length 0 (List.replicate C 0)
theorem ech_piv_rd (p : Int) (C : Nat) (rows : List (List Int)) (j : Nat) (hj : j < (echB p (C + 1) rows).2.length) : 0 ≤ rd (echB p (C + 1) rows).2 (j : Int) ∧ rd (echB p (C + 1) rows).2 (j : Int) < (C : Int) + 1 := by
  have := ech_piv_at p (C + 1) rows j hj
  rw [rd_cast]
  omega
theorem impl_solve_ev {p : Int} {C : Nat} {rows : List (List Int)} {l : List Int} (hp : 2 ≤ p ∧ p ≤ 31) (hC : C ≤ 900) (hM : MatP p C rows) (hl : rows.length ≤ 900) (he : RowP p rows.length l) : Ev (fun k => impl_Matrix_solve.f k p (C : Int) rows l) (solveB p C rows l) := by
  unfold impl_Matrix_solve.f
  have hs := mat_small hM
  have hll := he.1
  have hW := besideOne_mat hp.1 hM he
  obtain ⟨m1, m2, m3⟩ := ech_mat hp.1 hW (by rw [besideOne_length]; omega)
  rw [besideOne_length] at m3
  rw [wr (x := (C : Int) + 1) (by omega) (by omega), show (C : Int) + 1 = ((C + 1 : Nat) : Int) by omega]
  refine build_ev (l := fun k i acc => impl_Matrix_solve.l0 k l rows (rows.length : Int) i p (C : Int) rows p ((C + 1 : Nat) : Int) acc) rows.length (fun i => grp rows i ++ [l.getD i 0]) (fun i acc hi hacc r hr2 => ?_) ?_
  · have hg := (hM i hi).1
    refine Ev.step (fun k => ?_) hr2
    simp only [impl_Matrix_solve.l0]
    rw [if_pos (by omega), if_pos (by omega), if_pos (by omega), rdL_cast, clone_eq _ (by omega)]
    simp only [Option.bind_some, List.length_singleton]
    rw [if_pos (by omega), if_pos (by omega), if_pos (by omega), rd_cast, wr (by omega) (by omega)]
    rfl
  · have ew : (List.range rows.length).map (fun i => grp rows i ++ [l.getD i 0]) = besideOne rows l := rfl
    rw [ew]
    refine Ev.step (f := fun k => (impl_Matrix_echelon.f k p ((C + 1 : Nat) : Int) (besideOne rows l)).bind fun bt => (if (0 : Int) ≤ (C : Int) then (if ((C : Int)).toNat ≤ 35184372088832 then (impl_Matrix_solve.l1 k (List.replicate ((C : Int)).toNat 0) bt.2.2.2 (bt.2.2.2.length : Int) 0 p (C : Int) rows bt.1 bt.2.1 bt.2.2.1) else none) else none)) (fun k => ?_) ?_
    · simp only [impl_Matrix_solve.l0]
      rw [if_neg (by omega)]
    · refine Ev.bind (impl_echelon_ev hp (by omega) hW (by rw [besideOne_length]; omega)) ?_
      simp only [if_pos (show (0 : Int) ≤ (C : Int) by omega), Int.toNat_natCast, if_pos (show C ≤ 35184372088832 by omega)]
      exact impl_sol_go (by omega) m1 m2 (by omega) (ech_piv_rd p C _) (echB p (C + 1) (besideOne rows l)).2.length 0 (List.replicate C 0) (Nat.zero_add _) (by simp)
/-- The code of a matrix and a list of so many elements. -/
def askB (p cols : Int) (rows : List (List Int)) (l : List Int) (want : Int) : Int := if validMB p cols rows then (if rowB p want l then 0 else 2) else 1
theorem impl_targetCode_ev (p cols : Int) (rows : List (List Int)) (l : List Int) (want : Int) (hl : rows.length ≤ 4611686018427387904) (hr : ∀ r ∈ rows, r.length ≤ 4611686018427387904) (hll : l.length ≤ 4611686018427387904) : Ev (fun k => impl_targetCode.f k p cols rows l want) (askB p cols rows l want) := by
  unfold impl_targetCode.f askB
  refine Ev.bind (impl_ValidMatrix_ev p cols rows hl hr) ?_
  cases hv : validMB p cols rows with
  | false => exact Ev.now _
  | true =>
    have hpr := prime_of_valid hv
    simp only [if_true]
    unfold rowB
    by_cases h : (l.length : Int) = want
    · simp only [if_pos h, decide_eq_true h, Bool.true_and]
      refine Ev.bind (impl_areElements_ev p l hll) ?_
      rw [hpr, Bool.true_and]
      cases elemsB p l <;> exact Ev.now _
    · simp only [if_neg h, decide_eq_false h, Bool.false_and]
      exact Ev.now _
theorem ask_parts {p cols : Int} {rows : List (List Int)} {l : List Int} {want : Int} (h : askB p cols rows l want = 0) : validMB p cols rows = true ∧ (l.length : Int) = want ∧ elemsB p l = true := by
  unfold askB at h
  cases hv : validMB p cols rows with
  | false => rw [hv] at h; simp at h
  | true =>
    rw [hv] at h
    simp only [if_true] at h
    cases hr : rowB p want l with
    | false => rw [hr] at h; simp at h
    | true =>
      unfold rowB at hr
      simp only [Bool.and_eq_true, decide_eq_true_eq] at hr
      exact ⟨rfl, hr.1, hr.2⟩
def SolveRes (p cols : Int) (rows : List (List Int)) (l : List Int) : List Int × Int := if askB p cols rows l (rows.length : Int) = 0 then (if (solveB p cols.toNat rows l).2 = true then ((solveB p cols.toNat rows l).1, 0) else ([], 6)) else ([], askB p cols rows l (rows.length : Int))
theorem solve_ready {p cols : Int} {rows : List (List Int)} {l : List Int} (h : askB p cols rows l (rows.length : Int) = 0) : (2 ≤ p ∧ p ≤ 31) ∧ (cols.toNat : Int) = cols ∧ cols.toNat ≤ 900 ∧ MatP p cols.toNat rows ∧ rows.length ≤ 900 ∧ RowP p rows.length l := by
  obtain ⟨hv, h1, h2⟩ := ask_parts h
  obtain ⟨g1, g2, g3, g4, g5⟩ := MatP_of_valid hv
  have := RowP_list g1.1 h2
  rw [show l.length = rows.length by omega] at this
  exact ⟨g1, g2, by omega, g5, by omega, this⟩
theorem impl_SolveFor_ev (p cols : Int) (rows : List (List Int)) (l : List Int) (hl : rows.length ≤ 4611686018427387904) (hr : ∀ r ∈ rows, r.length ≤ 4611686018427387904) (hll : l.length ≤ 4611686018427387904) : Ev (fun k => impl_SolveFor.f k p cols rows l) (SolveRes p cols rows l) := by
  unfold impl_SolveFor.f SolveRes
  refine Ev.bind (impl_targetCode_ev p cols rows l _ hl hr hll) ?_
  by_cases h : askB p cols rows l (rows.length : Int) = 0
  · simp only [if_pos h]
    obtain ⟨g1, g2, g3, g4, g5, g6⟩ := solve_ready h
    have := impl_solve_ev g1 g3 g4 g5 g6
    rw [g2] at this
    refine Ev.bind this ?_
    split <;> exact Ev.now _
  · simp only [if_neg h]; exact Ev.now _
end Go.Proofs.Ytjpbemomocccaaa.P

namespace Go.Proofs.Ytjpbemomocccaaa.P
open Go.RowKit Go.Proofs.YtjpbemomocccaaaW.PrintWords Go.Proofs.YtjpbemomocccaaaW.PrintLast Go.Proofs.YtjpbemomocccaaaW.PrintMore
attribute [local go_sem] max2_int min2_int max_two min_two max_three min_three max_four min_four
set_option linter.unusedVariables false
set_option linter.unusedSimpArgs false

/-- The place of the first element that is not 0. -/
def leadN (l : List Int) : Nat := l.findIdx (fun a => a != 0)
theorem impl_first_ev (l : List Int) (hl : l.length ≤ 1000) : Ev (fun k => impl_first.f k l) (if leadN l < l.length then (leadN l : Int) else -1) := by
  unfold impl_first.f leadN
  have key : ∀ d i : Nat, i + d = l.length → Ev (fun k => idxI.l0 k impl_first_p l (i : Int)) (if i + (l.drop i).findIdx (fun a => a != 0) < l.length then ((i + (l.drop i).findIdx (fun a => a != 0) : Nat) : Int) else -1) := by
    intro d
    induction d with
    | zero =>
      intro i hi
      rw [if_neg (by omega)]
      refine Ev.step (f := fun _ => some (-1)) (fun k => ?_) (Ev.now _)
      simp only [idxI.l0]
      rw [if_neg (by omega)]
    | succ d ih =>
      intro i hi
      have hlt : i < l.length := by omega
      rw [List.drop_eq_getElem_cons hlt, List.findIdx_cons]
      by_cases h : l[i] = 0
      · have hb : (l[i] != 0) = false := by rw [h]; rfl
        rw [hb, cond_false]
        have := ih (i + 1) (by omega)
        rw [show i + ((l.drop (i + 1)).findIdx (fun a => a != 0) + 1) = i + 1 + (l.drop (i + 1)).findIdx (fun a => a != 0) by omega]
        refine Ev.step (fun k => ?_) this
        simp only [idxI.l0]
        rw [if_pos (by omega), if_pos (by omega), rd_nat l i hlt]
        simp only [impl_first_p, hb, Option.bind_some, Bool.false_eq_true, if_false]
        rw [wr (by omega) (by omega)]
        rfl
      · have hb : (l[i] != 0) = true := bne_iff_ne.mpr h
        rw [hb, cond_true, Nat.add_zero, if_pos hlt]
        refine Ev.step (f := fun _ => some (i : Int)) (fun k => ?_) (Ev.now _)
        simp only [idxI.l0]
        rw [if_pos (by omega), if_pos (by omega), rd_nat l i hlt]
        simp only [impl_first_p, hb, Option.bind_some, if_true]
  have := key l.length 0 (by omega)
  rw [List.drop_zero, Nat.zero_add] at this
  exact this
/-- One step of less: what is known is taken off a row. -/
def lessStep (p : Int) (x b : List Int × List Int) : List Int × List Int := (addB p x.1 b.1 (p - x.1.getD (leadN b.1) 0), addB p x.2 b.2 (p - x.1.getD (leadN b.1) 0))
def lessB (p : Int) (parts : List (List Int × List Int)) (x : List Int × List Int) : List Int × List Int := parts.foldl (lessStep p) x
def PartP (p : Int) (C n : Nat) (b : List Int × List Int) : Prop := RowP p C b.1 ∧ RowP p n b.2
theorem lessStep_P {p : Int} {C n : Nat} {x b : List Int × List Int} (hp : 2 ≤ p) (h : PartP p C n x) : PartP p C n (lessStep p x b) := ⟨addB_row hp h.1, addB_row hp h.2⟩
theorem combLess_ev {p : Int} {C n : Nat} (hp : 2 ≤ p ∧ p ≤ 31) (hC : C ≤ 1000) (hn : n ≤ 1000) {parts : List (List Int × List Int)} (hl : parts.length ≤ 1000) (hb : ∀ b ∈ parts, PartP p C n b ∧ leadN b.1 < C) :
    ∀ (d i : Nat) (x : List Int × List Int), i + d = parts.length → PartP p C n x → Ev (fun k => combLess k p parts x.1 x.2 (i : Int)) (lessB p (parts.drop i) x) := by
  intro d
  induction d with
  | zero =>
    intro i x hi hx
    rw [List.drop_eq_nil_of_le (by omega)]
    refine Ev.step (f := fun _ => some (x.1, x.2)) (fun k => ?_) (Ev.now _)
    simp only [combLess]
    rw [if_neg (by omega)]
  | succ d ih =>
    intro i x hi hx
    have hlt : i < parts.length := by omega
    obtain ⟨hbp, hbl⟩ := hb _ (List.getElem_mem hlt)
    have hpa : partAt parts (i : Int) = parts[i] := by unfold partAt; rw [Int.toNat_natCast, List.getD_eq_getElem?_getD, List.getElem?_eq_getElem hlt]; rfl
    rw [List.drop_eq_getElem_cons hlt]
    have hf := impl_first_ev parts[i].1 (by rw [hbp.1.1]; exact hC)
    rw [if_pos (by rw [hbp.1.1]; exact hbl)] at hf
    have hx1 := hx.1.1
    have hxv := hx.1.2 (leadN parts[i].1)
    have hnext := ih (i + 1) (lessStep p x parts[i]) (by omega) (lessStep_P hp.1 hx)
    refine Ev.step (f := fun k => (impl_first.f k parts[i].1).bind fun f => if 0 ≤ f then (if f < (x.1.length : Int) then (if rd x.1 f = 0 then combLess k p parts x.1 x.2 ((i + 1 : Nat) : Int) else ((impl_takeOff.f k p x.1 parts[i].1 (rd x.1 f)).bind fun row2 => ((impl_takeOff.f k p x.2 parts[i].2 (rd x.1 f)).bind fun from2 => combLess k p parts row2 from2 ((i + 1 : Nat) : Int)))) else none) else none) (fun k => ?_) (Ev.bind hf ?_)
    · simp only [combLess]
      rw [if_pos (by omega), if_pos (by omega), hpa, wr (by omega) (by omega)]
      rfl
    · simp only [if_pos (show (0 : Int) ≤ ((leadN parts[i].1 : Nat) : Int) by omega), if_pos (show ((leadN parts[i].1 : Nat) : Int) < (x.1.length : Int) by omega), rd_cast]
      by_cases h0 : x.1.getD (leadN parts[i].1) 0 = 0
      · simp only [if_pos h0]
        have e : lessStep p x parts[i] = x := by
          unfold lessStep
          rw [h0, Int.sub_zero, addB_p hp.1 hx.1, addB_p hp.1 hx.2]
        rw [e] at hnext
        show Ev _ (lessB p (parts.drop (i + 1)) (lessStep p x parts[i]))
        rw [e]
        exact hnext
      · simp only [if_neg h0]
        exact Ev.bind (impl_takeOff_ev hp hC hx.1 hbp.1 (by omega)) (Ev.bind (impl_takeOff_ev hp hn hx.2 hbp.2 (by omega)) hnext)
/-- x's row is t and the sum of the rows by x's elements. -/
def MadeOf (p : Int) (C : Nat) (rows : List (List Int)) (t : Nat → Int) (x : List Int × List Int) : Prop := ∀ j, j < C → Eqm p (elm x.1 j) (t j + sumN rows.length (fun r => elm x.2 r * elm (grp rows r) j))
theorem lessStep_made {p : Int} {C n : Nat} {rows : List (List Int)} {t : Nat → Int} {x b : List Int × List Int} (hrn : rows.length = n) (hx : PartP p C n x) (hb : PartP p C n b) (h : MadeOf p C rows t x) (h2 : MadeOf p C rows (fun _ => 0) b) : MadeOf p C rows t (lessStep p x b) := by
  intro j hj
  have e1 : Eqm p (elm (lessStep p x b).1 j) (elm x.1 j + elm b.1 j * (p - x.1.getD (leadN b.1) 0)) := elm_add hx.1.1 hb.1.1
  refine Eqm.trans e1 ?_
  refine Eqm.trans (Eqm.add (h j hj) (Eqm.mul (h2 j hj) (Eqm.rfl_ _ _))) ?_
  have e2 : Eqm p (sumN rows.length (fun r => elm (lessStep p x b).2 r * elm (grp rows r) j)) (sumN rows.length (fun r => (elm x.2 r + elm b.2 r * (p - x.1.getD (leadN b.1) 0)) * elm (grp rows r) j)) :=
    Eqm.sumN_ fun r _ => Eqm.mul (elm_add hx.2.1 hb.2.1) (Eqm.rfl_ _ _)
  refine Eqm.trans ?_ (Eqm.add (Eqm.rfl_ _ _) (Eqm.symm e2))
  refine Eqm.of_eq ?_
  have e3 : sumN rows.length (fun r => (elm x.2 r + elm b.2 r * (p - x.1.getD (leadN b.1) 0)) * elm (grp rows r) j) = sumN rows.length (fun r => elm x.2 r * elm (grp rows r) j) + (p - x.1.getD (leadN b.1) 0) * sumN rows.length (fun r => elm b.2 r * elm (grp rows r) j) := by
    rw [← sumN_mul, ← sumN_add]
    exact sumN_congr fun r _ => by grind
  rw [e3]
  grind
def ptB (parts : List (List Int × List Int)) (s : Nat) : List Int × List Int := parts.getD s ([], [])
theorem lessB_take {p : Int} {parts : List (List Int × List Int)} {x : List Int × List Int} {m : Nat} (hm : m < parts.length) : lessB p (parts.take (m + 1)) x = lessStep p (lessB p (parts.take m) x) (ptB parts m) := by
  unfold lessB ptB
  rw [List.take_add_one, List.getElem?_eq_getElem hm, List.foldl_append, List.getD_eq_getElem?_getD, List.getElem?_eq_getElem hm]
  rfl
structure BasisP (p : Int) (C n : Nat) (rows : List (List Int)) (parts : List (List Int × List Int)) : Prop where
  part : ∀ s, s < parts.length → PartP p C n (ptB parts s)
  lead : ∀ s, s < parts.length → leadN (ptB parts s).1 < C
  one : ∀ s, s < parts.length → elm (ptB parts s).1 (leadN (ptB parts s).1) = 1
  made : ∀ s, s < parts.length → MadeOf p C rows (fun _ => 0) (ptB parts s)
  tri : ∀ t s, t < s → s < parts.length → elm (ptB parts s).1 (leadN (ptB parts t).1) = 0
theorem less_facts {p : Int} {C n : Nat} {rows : List (List Int)} {parts : List (List Int × List Int)} {t : Nat → Int} {x : List Int × List Int} (hp : 2 ≤ p) (hrn : rows.length = n) (hB : BasisP p C n rows parts) (hx : PartP p C n x) (hm : MadeOf p C rows t x) :
    ∀ m, m ≤ parts.length → PartP p C n (lessB p (parts.take m) x) ∧ MadeOf p C rows t (lessB p (parts.take m) x) ∧ (∀ s, s < m → elm (lessB p (parts.take m) x).1 (leadN (ptB parts s).1) = 0) ∧ ∃ c : Nat → Int, ∀ j, j < C → Eqm p (elm (lessB p (parts.take m) x).1 j) (elm x.1 j + sumN m (fun s => c s * elm (ptB parts s).1 j)) := by
  intro m
  induction m with
  | zero => intro _; exact ⟨hx, hm, fun s hs => absurd hs (by omega), fun _ => 0, fun j _ => Eqm.of_eq (by show elm x.1 j = elm x.1 j + 0; omega)⟩
  | succ m ih =>
    intro hle
    obtain ⟨i1, i2, i3, c, i4⟩ := ih (by omega)
    have hlt : m < parts.length := by omega
    rw [lessB_take hlt]
    have hb := hB.part m hlt
    have hP := lessStep_P (b := ptB parts m) hp i1
    have e1 : ∀ j, Eqm p (elm (lessStep p (lessB p (parts.take m) x) (ptB parts m)).1 j) (elm (lessB p (parts.take m) x).1 j + elm (ptB parts m).1 j * (p - elm (lessB p (parts.take m) x).1 (leadN (ptB parts m).1))) := fun j => elm_add i1.1.1 hb.1.1
    refine ⟨hP, lessStep_made hrn i1 hb i2 (hB.made m hlt), fun s hs => ?_, fun s => if s = m then p - elm (lessB p (parts.take m) x).1 (leadN (ptB parts m).1) else c s, fun j hj => ?_⟩
    · have hr := hP.1.2 (leadN (ptB parts s).1)
      refine Eqm.eq_of (p := p) (Eqm.trans (e1 _) ?_) hr (by omega)
      by_cases h : s = m
      · subst h
        rw [hB.one s hlt]
        exact Eqm.trans (Eqm.of_eq (by omega)) (Eqm.p_ p)
      · rw [i3 s (by omega), hB.tri s m (by omega) hlt]
        exact Eqm.of_eq (by omega)
    · refine Eqm.trans (e1 j) (Eqm.trans (Eqm.add (i4 j hj) (Eqm.rfl_ _ _)) (Eqm.of_eq ?_))
      show _ = elm x.1 j + (sumN m (fun s => (if s = m then p - elm (lessB p (parts.take m) x).1 (leadN (ptB parts m).1) else c s) * elm (ptB parts s).1 j) + (if m = m then p - elm (lessB p (parts.take m) x).1 (leadN (ptB parts m).1) else c m) * elm (ptB parts m).1 j)
      have e5 : sumN m (fun s => (if s = m then p - elm (lessB p (parts.take m) x).1 (leadN (ptB parts m).1) else c s) * elm (ptB parts s).1 j) = sumN m (fun s => c s * elm (ptB parts s).1 j) := sumN_congr fun s hs => by rw [if_neg (by omega)]
      rw [e5, if_pos rfl, Int.mul_comm (p - _), Int.add_assoc]
/-- A vector that lies in the span of the basis. -/
def SpanB (p : Int) (C : Nat) (parts : List (List Int × List Int)) (v : Nat → Int) : Prop := ∃ c : Nat → Int, ∀ j, j < C → Eqm p (v j) (sumN parts.length (fun s => c s * elm (ptB parts s).1 j))
theorem span_zero {p : Int} {C n : Nat} {rows : List (List Int)} {parts : List (List Int × List Int)} {v : Nat → Int} (hB : BasisP p C n rows parts) (hv : SpanB p C parts v) (h0 : ∀ s, s < parts.length → Eqm p (v (leadN (ptB parts s).1)) 0) : ∀ j, j < C → Eqm p (v j) 0 := by
  obtain ⟨c, hc⟩ := hv
  have key : ∀ m s, s < m → s < parts.length → Eqm p (c s) 0 := by
    intro m
    induction m with
    | zero => intro s hs; omega
    | succ m ih =>
      intro s hs hsl
      have h1 := Eqm.trans (Eqm.symm (hc _ (hB.lead s hsl))) (h0 s hsl)
      rw [sumN_apart hsl, hB.one s hsl] at h1
      have h2 : Eqm p (sumN parts.length (fun k => if k = s then 0 else c k * elm (ptB parts k).1 (leadN (ptB parts s).1))) 0 := by
        refine Eqm.trans (Eqm.sumN_ (g := fun _ => 0) fun k hk => ?_) (Eqm.of_eq (sumN_zero fun _ _ => rfl))
        by_cases hks : k = s
        · rw [if_pos hks]; exact Eqm.rfl_ _ _
        · rw [if_neg hks]
          rcases Nat.lt_or_gt_of_ne hks with h | h
          · exact Eqm.trans (Eqm.mul (ih k (by omega) hk) (Eqm.rfl_ _ _)) (Eqm.of_eq (by omega))
          · rw [hB.tri s k h hk]; exact Eqm.of_eq (by omega)
      have h3 := Eqm.sub h1 h2
      exact Eqm.trans (Eqm.of_eq (by grind)) h3
  intro j hj
  refine Eqm.trans (hc j hj) (Eqm.trans (Eqm.sumN_ (g := fun _ => 0) fun s hs => ?_) (Eqm.of_eq (sumN_zero fun _ _ => rfl)))
  exact Eqm.trans (Eqm.mul (key (s + 1) s (by omega) hs) (Eqm.rfl_ _ _)) (Eqm.of_eq (by omega))

end Go.Proofs.Ytjpbemomocccaaa.P

namespace Go.Proofs.Ytjpbemomocccaaa.P
open Go.RowKit Go.Proofs.YtjpbemomocccaaaW.PrintWords Go.Proofs.YtjpbemomocccaaaW.PrintLast Go.Proofs.YtjpbemomocccaaaW.PrintMore
attribute [local go_sem] max2_int min2_int max_two min_two max_three min_three max_four min_four
set_option linter.unusedVariables false
set_option linter.unusedSimpArgs false

theorem span_add {p : Int} {C : Nat} {parts : List (List Int × List Int)} {v w : Nat → Int} {a : Int} (hv : SpanB p C parts v) (hw : SpanB p C parts w) : SpanB p C parts (fun j => v j + a * w j) := by
  obtain ⟨c, hc⟩ := hv
  obtain ⟨d, hd⟩ := hw
  refine ⟨fun s => c s + a * d s, fun j hj => ?_⟩
  refine Eqm.trans (Eqm.add (hc j hj) (Eqm.mul (Eqm.rfl_ _ _) (hd j hj))) (Eqm.of_eq ?_)
  rw [← sumN_mul, ← sumN_add]
  exact sumN_congr fun s _ => by grind
theorem span_nil {p : Int} {C : Nat} {parts : List (List Int × List Int)} : SpanB p C parts (fun _ => 0) := ⟨fun _ => 0, fun j _ => Eqm.of_eq (sumN_zero fun _ _ => Int.zero_mul _).symm⟩
theorem span_eq {p : Int} {C : Nat} {parts : List (List Int × List Int)} {v w : Nat → Int} (h : ∀ j, j < C → Eqm p (v j) (w j)) (hw : SpanB p C parts w) : SpanB p C parts v := by
  obtain ⟨c, hc⟩ := hw
  exact ⟨c, fun j hj => Eqm.trans (h j hj) (hc j hj)⟩
theorem span_sum {p : Int} {C : Nat} {parts : List (List Int × List Int)} {c : Nat → Int} {f : Nat → Nat → Int} : ∀ m, (∀ r, r < m → SpanB p C parts (f r)) → SpanB p C parts (fun j => sumN m (fun r => c r * f r j)) := by
  intro m
  induction m with
  | zero => intro _; exact span_nil
  | succ m ih => intro h; exact span_add (ih fun r hr => h r (by omega)) (h m (by omega))
theorem ptB_snoc (parts : List (List Int × List Int)) (b : List Int × List Int) (s : Nat) : ptB (parts ++ [b]) s = if s < parts.length then ptB parts s else if s = parts.length then b else ([], []) := by
  unfold ptB
  rw [getD_append]
  by_cases h : s < parts.length
  · rw [if_pos h, if_pos h]
  · rw [if_neg h, if_neg h]
    by_cases h2 : s = parts.length
    · subst h2; rw [if_pos rfl, Nat.sub_self]; rfl
    · rw [if_neg h2, List.getD_eq_getElem?_getD, List.getElem?_eq_none (by simp; omega)]; rfl
theorem span_snoc {p : Int} {C : Nat} {parts : List (List Int × List Int)} {b : List Int × List Int} {v : Nat → Int} (h : SpanB p C parts v) : SpanB p C (parts ++ [b]) v := by
  obtain ⟨c, hc⟩ := h
  refine ⟨fun s => if s < parts.length then c s else 0, fun j hj => ?_⟩
  refine Eqm.trans (hc j hj) (Eqm.of_eq ?_)
  rw [List.length_append, List.length_singleton]
  show _ = sumN parts.length _ + (if parts.length < parts.length then c parts.length else 0) * _
  rw [if_neg (by omega), Int.zero_mul, Int.add_zero]
  exact sumN_congr fun s hs => by show _ = (if s < parts.length then c s else 0) * _; rw [if_pos hs, ptB_snoc, if_pos hs]
theorem span_last {p : Int} {C : Nat} {parts : List (List Int × List Int)} {b : List Int × List Int} : SpanB p C (parts ++ [b]) (elm b.1) := by
  refine ⟨fun s => if s = parts.length then 1 else 0, fun j hj => Eqm.of_eq ?_⟩
  rw [List.length_append, List.length_singleton]
  show _ = sumN parts.length _ + (if parts.length = parts.length then (1 : Int) else 0) * _
  rw [if_pos rfl, ptB_snoc, if_neg (by omega), if_pos rfl, sumN_zero fun s hs => by show (if s = parts.length then (1 : Int) else 0) * _ = 0; rw [if_neg (by omega), Int.zero_mul]]
  omega
theorem leadN_ne {l : List Int} (h : leadN l < l.length) : elm l (leadN l) ≠ 0 := by
  unfold elm leadN at *
  have := List.findIdx_getElem (w := h)
  rw [List.getD_eq_getElem?_getD, List.getElem?_eq_getElem h]
  simpa using this
theorem leadN_none {l : List Int} (h : ¬ leadN l < l.length) : ∀ j, elm l j = 0 := by
  intro j
  unfold elm
  by_cases hj : j < l.length
  · have h1 : leadN l = l.length := by
      have := List.findIdx_le_length (p := fun a => a != 0) (xs := l)
      unfold leadN at *
      omega
    unfold leadN at h1
    rw [List.findIdx_eq_length] at h1
    have h2 := h1 l[j] (List.getElem_mem hj)
    rw [List.getD_eq_getElem?_getD, List.getElem?_eq_getElem hj]
    simpa using h2
  · rw [List.getD_eq_getElem?_getD, List.getElem?_eq_none (by omega)]; rfl
/-- A row put behind the basis, if anything is left of it. -/
def putB (p : Int) (parts : List (List Int × List Int)) (x : List Int × List Int) : List (List Int × List Int) := if leadN x.1 < x.1.length then parts ++ [(timesB p (invB p (elm x.1 (leadN x.1))) x.1, timesB p (invB p (elm x.1 (leadN x.1))) x.2)] else parts
def takeRow (p : Int) (n : Nat) (rows : List (List Int)) (parts : List (List Int × List Int)) (i : Nat) : List (List Int × List Int) := putB p parts (lessB p parts (grp rows i, unitB n i))
def basisB (p : Int) (n : Nat) (rows : List (List Int)) : List (List Int × List Int) := (List.range n).foldl (takeRow p n rows) []
theorem findIdx_same {α : Type} {q q' : α → Bool} : ∀ {l : List α}, (∀ a ∈ l, q a = q' a) → l.findIdx q = l.findIdx q'
  | [], _ => rfl
  | a :: l, h => by rw [List.findIdx_cons, List.findIdx_cons, h a (List.mem_cons_self ..), findIdx_same fun b hb => h b (List.mem_cons_of_mem _ hb)]
theorem timesB_lead {p b : Int} {C : Nat} {l : List Int} (hp : 2 ≤ p) (hr : RowP p C l) (h : ∀ j, elm (timesB p b l) j = 0 → elm l j = 0) : leadN (timesB p b l) = leadN l := by
  have hlen : (timesB p b l).length = l.length := by simp [timesB]
  have he : ∀ j, elm l j = 0 → elm (timesB p b l) j = 0 := by
    intro j hj
    by_cases hjl : j < l.length
    · unfold elm timesB at *
      rw [getD_map _ _ _ _ hjl, hj, Int.zero_mul]; exact Int.zero_emod _
    · unfold elm
      rw [List.getD_eq_getElem?_getD, List.getElem?_eq_none (by omega)]; rfl
  unfold leadN
  rw [show timesB p b l = l.map (fun a => a * b % p) from by
    refine list_eq_getD 0 (by simp [timesB]) fun j hj => ?_
    rw [hlen] at hj
    unfold timesB
    rw [getD_map _ _ _ _ hj, List.getD_eq_getElem?_getD, List.getD_eq_getElem?_getD, List.getElem?_map, List.getElem?_eq_getElem hj]; rfl]
  rw [List.findIdx_map]
  refine findIdx_same fun a ha => ?_
  obtain ⟨j, hj, rfl⟩ := List.getElem_of_mem ha
  have e1 : elm l j = l[j] := by unfold elm; rw [List.getD_eq_getElem?_getD, List.getElem?_eq_getElem hj]; rfl
  have e2 : elm (timesB p b l) j = l[j] * b % p := by unfold elm timesB; rw [getD_map _ _ _ _ hj, List.getD_eq_getElem?_getD, List.getElem?_eq_getElem hj]; rfl
  show ((l[j] * b % p) != 0) = (l[j] != 0)
  rw [← e2, ← e1]
  by_cases h0 : elm l j = 0
  · rw [h0, he j h0]
  · rw [bne_iff_ne.mpr h0, bne_iff_ne.mpr (fun h2 => h0 (h j h2))]
/-- Row r is no sum of the rows ahead of it. -/
def FreeP (p : Int) (C : Nat) (rows : List (List Int)) (r : Nat) : Prop := ¬ ∃ c : Nat → Int, ∀ j, j < C → Eqm p (elm (grp rows r) j) (sumN r (fun u => c u * elm (grp rows u) j))
structure FullP (p : Int) (C n : Nat) (rows : List (List Int)) (i : Nat) (parts : List (List Int × List Int)) : Prop where
  basis : BasisP p C n rows parts
  seen : ∀ r, r < i → SpanB p C parts (elm (grp rows r))
  sup : ∀ s, s < parts.length → ∀ r, ¬ FreeP p C rows r → elm (ptB parts s).2 r = 0
  small : parts.length ≤ i
theorem elm_addB_zero {p t : Int} {u v : List Int} {r : Nat} (hu : elm u r = 0) (hv : elm v r = 0) : elm (addB p u v t) r = 0 := by
  unfold elm at *
  by_cases h : r < u.length
  · unfold addB
    rw [getD_map _ _ _ _ h, hu, hv, Int.zero_mul, Int.zero_add]
    exact Int.zero_emod _
  · rw [List.getD_eq_getElem?_getD, List.getElem?_eq_none (by simp [addB]; omega)]; rfl
theorem elm_timesB_zero {p t : Int} {u : List Int} {r : Nat} (hu : elm u r = 0) : elm (timesB p t u) r = 0 := by
  unfold elm at *
  by_cases h : r < u.length
  · unfold timesB
    rw [getD_map _ _ _ _ h, hu, Int.zero_mul]
    exact Int.zero_emod _
  · rw [List.getD_eq_getElem?_getD, List.getElem?_eq_none (by simp [timesB]; omega)]; rfl
theorem less_sup {p : Int} {r : Nat} {parts : List (List Int × List Int)} {x : List Int × List Int} (hx : elm x.2 r = 0) (hs : ∀ s, s < parts.length → elm (ptB parts s).2 r = 0) : ∀ m, m ≤ parts.length → elm (lessB p (parts.take m) x).2 r = 0 := by
  intro m
  induction m with
  | zero => intro _; exact hx
  | succ m ih =>
    intro hm
    rw [lessB_take (by omega)]
    exact elm_addB_zero (ih (by omega)) (hs m (by omega))
theorem unit_made {p : Int} {C n i : Nat} {rows : List (List Int)} (hrn : rows.length = n) (hi : i < n) : MadeOf p C rows (fun _ => 0) (grp rows i, unitB n i) := by
  intro j hj
  refine Eqm.of_eq ?_
  show elm (grp rows i) j = 0 + sumN rows.length (fun r => elm (unitB n i) r * elm (grp rows r) j)
  have e0 : sumN rows.length (fun k => if k = i then 0 else elm (unitB n i) k * elm (grp rows k) j) = 0 := sumN_zero fun k hk => by
    by_cases h1 : k = i
    · rw [if_pos h1]
    · rw [if_neg h1]
      unfold elm
      rw [unitB_getD hi, if_neg h1, Int.zero_mul]
  rw [sumN_apart (a := i) (by omega), e0]
  have : elm (unitB n i) i = 1 := by unfold elm; rw [unitB_getD hi, if_pos rfl]
  rw [this]
  omega
theorem full_start (p : Int) (C n : Nat) (rows : List (List Int)) : FullP p C n rows 0 [] := ⟨⟨fun s hs => absurd hs (by simp), fun s hs => absurd hs (by simp), fun s hs => absurd hs (by simp), fun s hs => absurd hs (by simp), fun t s _ hs => absurd hs (by simp)⟩, fun r hr => absurd hr (by omega), fun s hs => absurd hs (by simp), Nat.le_refl _⟩
theorem full_step {p : Int} {C n i : Nat} {rows : List (List Int)} {parts : List (List Int × List Int)} (hpr : primeB p = true) (hM : MatP p C rows) (hrn : rows.length = n) (hi : i < n) (h : FullP p C n rows i parts) : FullP p C n rows (i + 1) (takeRow p n rows parts i) := by
  have hp := primeB_range hpr
  have hx0 : PartP p C n (grp rows i, unitB n i) := ⟨hM i (by omega), RowP_set (RowP_zero hp.1 n) hi (by omega)⟩
  obtain ⟨f1, f2, f3, c, f4⟩ := less_facts hp.1 hrn h.basis hx0 (unit_made hrn hi) parts.length (Nat.le_refl _)
  rw [List.take_length] at f1 f2 f3 f4
  have fs : ∀ r, ¬ FreeP p C rows r → r ≠ i → elm (lessB p parts (grp rows i, unitB n i)).2 r = 0 := fun r hr hri => by
    have := less_sup (p := p) (r := r) (parts := parts) (x := (grp rows i, unitB n i)) (by show elm (unitB n i) r = 0; unfold elm; rw [unitB_getD hi, if_neg hri]) (fun s hs => h.sup s hs r hr) parts.length (Nat.le_refl _)
    rwa [List.take_length] at this
  unfold takeRow putB
  generalize lessB p parts (grp rows i, unitB n i) = x at *
  replace f4 : ∀ j, j < C → Eqm p (elm x.1 j) (elm (grp rows i) j + sumN parts.length (fun s => c s * elm (ptB parts s).1 j)) := f4
  -- what is left lies in the span, up to row i
  have hspan : ∀ v, SpanB p C parts v → SpanB p C parts (fun j => v j + sumN parts.length (fun s => c s * elm (ptB parts s).1 j)) := fun v hv => by
    have := span_add (a := 1) hv (⟨c, fun j _ => Eqm.rfl_ _ _⟩ : SpanB p C parts (fun j => sumN parts.length (fun s => c s * elm (ptB parts s).1 j)))
    exact span_eq (fun j _ => Eqm.of_eq (by rw [Int.one_mul])) this
  have hxz : SpanB p C parts (elm (grp rows i)) → ∀ j, j < C → elm x.1 j = 0 := fun hs j hj => by
    have h1 := span_zero h.basis (span_eq f4 (hspan _ hs)) (fun s hs2 => Eqm.of_eq (f3 s hs2)) j hj
    exact Eqm.eq_of h1 (f1.1.2 j) (by omega)
  by_cases hl : leadN x.1 < x.1.length
  · rw [if_pos hl]
    have hne := leadN_ne hl
    have hC1 : leadN x.1 < C := by have := f1.1.1; omega
    have hlr := f1.1.2 (leadN x.1)
    have hinv := inv_eqm hpr hlr hne
    have hfree : FreeP p C rows i := fun ⟨d, hd⟩ => hne (hxz (span_eq hd (span_sum i fun r hr => h.seen r hr)) _ hC1)
    have hb1 : ∀ j, Eqm p (elm (timesB p (invB p (elm x.1 (leadN x.1))) x.1) j) (elm x.1 j * invB p (elm x.1 (leadN x.1))) := fun j => elm_times
    have hb2 : ∀ j, Eqm p (elm (timesB p (invB p (elm x.1 (leadN x.1))) x.2) j) (elm x.2 j * invB p (elm x.1 (leadN x.1))) := fun j => elm_times
    have hback : ∀ j, Eqm p (elm x.1 j) (elm (timesB p (invB p (elm x.1 (leadN x.1))) x.1) j * elm x.1 (leadN x.1)) := fun j => by
      refine Eqm.symm (Eqm.trans (Eqm.mul (hb1 j) (Eqm.rfl_ _ _)) ?_)
      refine Eqm.trans (Eqm.of_eq (?_ : _ = elm x.1 j * (elm x.1 (leadN x.1) * invB p (elm x.1 (leadN x.1))))) ?_
      · grind
      · exact Eqm.trans (Eqm.mul (Eqm.rfl_ _ _) hinv) (Eqm.of_eq (Int.mul_one _))
    have hld : leadN (timesB p (invB p (elm x.1 (leadN x.1))) x.1) = leadN x.1 := timesB_lead hp.1 f1.1 fun j hj => by
      have := hback j
      rw [hj, Int.zero_mul] at this
      exact Eqm.eq_of this (f1.1.2 j) (by omega)
    have hpt : ∀ s, s < parts.length → ptB (parts ++ [(timesB p (invB p (elm x.1 (leadN x.1))) x.1, timesB p (invB p (elm x.1 (leadN x.1))) x.2)]) s = ptB parts s := fun s hs => by rw [ptB_snoc, if_pos hs]
    have hpl : ptB (parts ++ [(timesB p (invB p (elm x.1 (leadN x.1))) x.1, timesB p (invB p (elm x.1 (leadN x.1))) x.2)]) parts.length = (timesB p (invB p (elm x.1 (leadN x.1))) x.1, timesB p (invB p (elm x.1 (leadN x.1))) x.2) := by rw [ptB_snoc, if_neg (by omega), if_pos rfl]
    have hcase : ∀ s, s < (parts ++ [(timesB p (invB p (elm x.1 (leadN x.1))) x.1, timesB p (invB p (elm x.1 (leadN x.1))) x.2)]).length → s < parts.length ∨ s = parts.length := fun s hs => by simp at hs; omega
    refine ⟨⟨fun s hs => ?_, fun s hs => ?_, fun s hs => ?_, fun s hs => ?_, fun t s hts hs => ?_⟩, fun r hr => ?_, fun s hs r hr => ?_, ?_⟩
    · rcases hcase s hs with h1 | rfl
      · rw [hpt s h1]; exact h.basis.part s h1
      · rw [hpl]; exact ⟨timesB_row hp.1 f1.1, timesB_row hp.1 f1.2⟩
    · rcases hcase s hs with h1 | rfl
      · rw [hpt s h1]; exact h.basis.lead s h1
      · rw [hpl, hld]; exact hC1
    · rcases hcase s hs with h1 | rfl
      · rw [hpt s h1]; exact h.basis.one s h1
      · rw [hpl, hld]
        refine Eqm.eq_of (Eqm.trans (hb1 _) hinv) ((timesB_row hp.1 f1.1).2 _) (by omega)
    · rcases hcase s hs with h1 | rfl
      · rw [hpt s h1]; exact h.basis.made s h1
      · rw [hpl]
        intro j hj
        refine Eqm.trans (hb1 j) (Eqm.trans (Eqm.mul (f2 j hj) (Eqm.rfl_ _ _)) (Eqm.trans (Eqm.of_eq ?_) (Eqm.add (Eqm.rfl_ _ _) (Eqm.sumN_ fun r _ => Eqm.mul (Eqm.symm (hb2 r)) (Eqm.rfl_ _ _)))))
        rw [Int.zero_add, Int.zero_add, Int.mul_comm, ← sumN_mul]
        exact sumN_congr fun r _ => by grind
    · rcases hcase s hs with h1 | rfl
      · rw [hpt s h1, hpt t (by omega)]; exact h.basis.tri t s hts h1
      · rw [hpl, hpt t hts]; exact elm_timesB_zero (f3 t hts)
    · rcases Nat.lt_or_ge r i with h1 | h1
      · exact span_snoc (h.seen r h1)
      · obtain rfl : r = i := by omega
        refine span_eq (w := fun j => (0 + elm x.1 (leadN x.1) * elm (timesB p (invB p (elm x.1 (leadN x.1))) x.1) j) + (-1) * sumN parts.length (fun s => c s * elm (ptB parts s).1 j)) (fun j hj => ?_) (span_add (span_add span_nil span_last) (span_snoc ⟨c, fun j _ => Eqm.rfl_ _ _⟩))
        have e1 := Eqm.sub (Eqm.trans (Eqm.symm (f4 j hj)) (hback j)) (Eqm.rfl_ p (sumN parts.length (fun s => c s * elm (ptB parts s).1 j)))
        exact Eqm.trans (Eqm.of_eq (by show elm (grp rows r) j = _; omega)) (Eqm.trans e1 (Eqm.of_eq (by grind)))
    · rcases hcase s hs with h1 | rfl
      · rw [hpt s h1]; exact h.sup s h1 r hr
      · rw [hpl]
        exact elm_timesB_zero (fs r hr fun e => hr (e ▸ hfree))
    · simp; have := h.small; omega
  · rw [if_neg hl]
    have hz := leadN_none hl
    refine ⟨h.basis, fun r hr => ?_, h.sup, by have := h.small; omega⟩
    rcases Nat.lt_or_ge r i with h1 | h1
    · exact h.seen r h1
    · obtain rfl : r = i := by omega
      refine span_eq (w := fun j => 0 + (-1) * sumN parts.length (fun s => c s * elm (ptB parts s).1 j)) (fun j hj => ?_) (span_add span_nil ⟨c, fun j _ => Eqm.rfl_ _ _⟩)
      have e1 := Eqm.sub (Eqm.symm (f4 j hj)) (Eqm.rfl_ p (sumN parts.length (fun s => c s * elm (ptB parts s).1 j)))
      rw [hz j] at e1
      exact Eqm.trans (Eqm.of_eq (by show elm (grp rows r) j = _; omega)) (Eqm.trans e1 (Eqm.of_eq (by grind)))
theorem full_all {p : Int} {C n : Nat} {rows : List (List Int)} (hpr : primeB p = true) (hM : MatP p C rows) (hrn : rows.length = n) : ∀ i, i ≤ n → FullP p C n rows i ((List.range i).foldl (takeRow p n rows) []) := by
  intro i
  induction i with
  | zero => intro _; exact full_start p C n rows
  | succ i ih =>
    intro hi
    rw [List.range_succ, List.foldl_append]
    exact full_step hpr hM hrn (by omega) (ih (by omega))

end Go.Proofs.Ytjpbemomocccaaa.P

namespace Go.Proofs.Ytjpbemomocccaaa.P
open Go.RowKit Go.Proofs.YtjpbemomocccaaaW.PrintWords Go.Proofs.YtjpbemomocccaaaW.PrintLast Go.Proofs.YtjpbemomocccaaaW.PrintMore
attribute [local go_sem] max2_int min2_int max_two min_two max_three min_three max_four min_four
set_option linter.unusedVariables false
set_option linter.unusedSimpArgs false

theorem sumN_both (n m : Nat) (f : Nat → Nat → Int) : sumN n (fun i => sumN m (fun j => f i j)) = sumN m (fun j => sumN n (fun i => f i j)) := by
  induction n with
  | zero => exact (sumN_zero fun _ _ => rfl).symm
  | succ n ih =>
    show sumN n _ + sumN m _ = _
    rw [ih, ← sumN_add]
    rfl
theorem sumN_only {n a : Nat} (ha : a < n) (f : Nat → Int) : sumN n (fun i => if i = a then f i else 0) = f a := by
  rw [sumN_apart ha, sumN_zero fun i _ => by by_cases h : i = a <;> simp [h]]
  simp
/-- The vector that is 1 at r and takes r's column off the pivots. -/
def colZ (E : List (List Int)) (piv : List Int) (r u : Nat) : Int := (if u = r then 1 else 0) - sumN piv.length (fun k => if u = (rd piv (k : Int)).toNat then elm (grp E k) r else 0)
theorem colZ_ker {p : Int} {D r : Nat} {s : List (List Int) × List Int} (hR : RrefP p D D s) (hle : s.2.length ≤ s.1.length) (hr : r < D) : KerP p D s.1 (colZ s.1 s.2 r) := by
  intro i hi
  refine Eqm.of_eq ?_
  unfold dotZ
  have e1 : sumN D (fun u => elm (grp s.1 i) u * colZ s.1 s.2 r u) = sumN D (fun u => (if u = r then elm (grp s.1 i) u else 0) + (-1) * sumN s.2.length (fun k => if u = (rd s.2 (k : Int)).toNat then elm (grp s.1 i) u * elm (grp s.1 k) r else 0)) := by
    refine sumN_congr fun u _ => ?_
    unfold colZ
    have e2 : sumN s.2.length (fun k => if u = (rd s.2 (k : Int)).toNat then elm (grp s.1 i) u * elm (grp s.1 k) r else 0) = elm (grp s.1 i) u * sumN s.2.length (fun k => if u = (rd s.2 (k : Int)).toNat then elm (grp s.1 k) r else 0) := by
      rw [← sumN_mul]
      exact sumN_congr fun k _ => by split <;> simp
    rw [e2]
    by_cases h : u = r
    · rw [if_pos h, if_pos h]; grind
    · rw [if_neg h, if_neg h]; grind
  rw [e1, sumN_add, sumN_only hr, sumN_mul, sumN_both]
  have e3 : sumN s.2.length (fun k => sumN D (fun u => if u = (rd s.2 (k : Int)).toNat then elm (grp s.1 i) u * elm (grp s.1 k) r else 0)) = sumN s.2.length (fun k => if k = i then elm (grp s.1 k) r else 0) := by
    refine sumN_congr fun k hk => ?_
    have hlt := hR.lt k hk
    rw [sumN_only (a := (rd s.2 (k : Int)).toNat) (by omega) (fun u => elm (grp s.1 i) u * elm (grp s.1 k) r)]
    have hd := hR.delta k hk i hi
    rw [hd]
    by_cases h : i = k
    · rw [if_pos h, if_pos h.symm]; omega
    · rw [if_neg h, if_neg (Ne.symm h)]; omega
  rw [e3]
  by_cases h : i < s.2.length
  · rw [sumN_only h (fun k => elm (grp s.1 k) r)]; omega
  · rw [sumN_zero fun k hk => by rw [if_neg (by omega)]]
    rw [hR.zero i (by omega) hi r hr]
    rfl
theorem colZ_high {p : Int} {D r u : Nat} {s : List (List Int) × List Int} (hR : RrefP p D D s) (hu : r < u) : colZ s.1 s.2 r u = 0 := by
  unfold colZ
  rw [if_neg (by omega), sumN_zero fun k hk => by
    by_cases h : u = (rd s.2 (k : Int)).toNat
    · rw [if_pos h]; exact hR.left k hk r (by omega)
    · rw [if_neg h]]
  rfl
theorem colZ_self {p : Int} {D r : Nat} {s : List (List Int) × List Int} (h : ∀ k, k < s.2.length → (rd s.2 (k : Int)).toNat ≠ r) : colZ s.1 s.2 r r = 1 := by
  unfold colZ
  rw [if_pos rfl, sumN_zero fun k hk => by rw [if_neg (Ne.symm (h k hk))]]
  rfl
theorem sumN_cut {n r : Nat} (hr : r ≤ n) {f : Nat → Int} (h : ∀ u, r ≤ u → u < n → f u = 0) : sumN n f = sumN r f := by
  induction n with
  | zero => obtain rfl : r = 0 := by omega
            rfl
  | succ n ih =>
    by_cases hn : r = n + 1
    · rw [hn]
    · show sumN n f + f n = _
      rw [ih (by omega) (fun u h1 h2 => h u h1 (by omega)), h n (by omega) (by omega)]
      omega

end Go.Proofs.Ytjpbemomocccaaa.P

namespace Go.Proofs.Ytjpbemomocccaaa.P
open Go.RowKit Go.Proofs.YtjpbemomocccaaaW.PrintWords Go.Proofs.YtjpbemomocccaaaW.PrintLast Go.Proofs.YtjpbemomocccaaaW.PrintMore
attribute [local go_sem] max2_int min2_int max_two min_two max_three min_three max_four min_four
set_option linter.unusedVariables false
set_option linter.unusedSimpArgs false

theorem turnB_grp {C : Nat} {rows : List (List Int)} {j : Nat} (hj : j < C) : grp (turnB C rows) j = colB rows j := by
  unfold turnB grp
  exact getD_map _ _ _ _ hj
theorem colB_elm {rows : List (List Int)} {j r : Nat} (hr : r < rows.length) : elm (colB rows j) r = elm (grp rows r) j := by
  unfold elm colB
  exact getD_map _ _ _ _ hr
/-- The turned rows with the target beside them. -/
def wideC (C : Nat) (rows : List (List Int)) (l : List Int) : List (List Int) := besideOne (turnB C rows) l
theorem wideC_length (C : Nat) (rows : List (List Int)) (l : List Int) : (wideC C rows l).length = C := by unfold wideC; rw [besideOne_length, turnB_length]
theorem wideC_elm {C : Nat} {rows : List (List Int)} {l : List Int} {j r : Nat} (hj : j < C) (hr : r < rows.length) : elm (grp (wideC C rows l) j) r = elm (grp rows r) j := by
  unfold wideC
  rw [besideOne_grp (by rw [turnB_length]; exact hj), turnB_grp hj]
  unfold elm
  rw [getD_append, if_pos (by simp [colB]; exact hr)]
  exact colB_elm hr
theorem wideC_last {C : Nat} {rows : List (List Int)} {l : List Int} {j : Nat} (hj : j < C) : elm (grp (wideC C rows l) j) rows.length = elm l j := by
  unfold wideC
  rw [besideOne_grp (by rw [turnB_length]; exact hj), turnB_grp hj]
  unfold elm
  rw [getD_append, if_neg (by simp [colB])]
  simp [colB]
theorem wideC_ker {p : Int} {C : Nat} {rows : List (List Int)} {l : List Int} {z : Nat → Int} : KerP p (rows.length + 1) (wideC C rows l) z ↔ ∀ j, j < C → Eqm p (sumN rows.length (fun r => z r * elm (grp rows r) j) + z rows.length * elm l j) 0 := by
  have key : ∀ j, j < C → dotZ (rows.length + 1) (grp (wideC C rows l) j) z = sumN rows.length (fun r => z r * elm (grp rows r) j) + z rows.length * elm l j := fun j hj => by
    show sumN rows.length (fun r => elm (grp (wideC C rows l) j) r * z r) + elm (grp (wideC C rows l) j) rows.length * z rows.length = _
    rw [wideC_last hj, Int.mul_comm (elm l j), sumN_congr fun r hr => by rw [wideC_elm hj hr, Int.mul_comm]]
  unfold KerP
  rw [wideC_length]
  constructor
  · intro h j hj; rw [← key j hj]; exact h j hj
  · intro h j hj; rw [key j hj]; exact h j hj
theorem turn_mat {p : Int} {C : Nat} {rows : List (List Int)} (hp : 2 ≤ p) (hM : MatP p C rows) : MatP p rows.length (turnB C rows) := by
  intro j hj
  rw [turnB_length] at hj
  rw [turnB_grp hj]
  refine ⟨by simp [colB], fun r => ?_⟩
  by_cases hr : r < rows.length
  · have := colB_elm (j := j) hr
    unfold elm at this
    rw [this]
    exact (hM r hr).2 j
  · rw [List.getD_eq_getElem?_getD, List.getElem?_eq_none (by simp [colB]; omega)]
    show 0 ≤ (0 : Int) ∧ (0 : Int) ≤ p - 1
    omega
theorem wideC_mat {p : Int} {C : Nat} {rows : List (List Int)} {l : List Int} (hp : 2 ≤ p) (hM : MatP p C rows) (hl : RowP p C l) : MatP p (rows.length + 1) (wideC C rows l) := besideOne_mat hp (turn_mat hp hM) (by rw [turnB_length]; exact hl)
theorem free_piv {p : Int} {C r : Nat} {rows : List (List Int)} {l : List Int} (hpr : primeB p = true) (hM : MatP p C rows) (hl : RowP p C l) (hC : C ≤ 1000) (hr : r < rows.length) (hf : FreeP p C rows r) : ∃ k, k < (fullB p (rows.length + 1) (wideC C rows l)).2.length ∧ (rd (fullB p (rows.length + 1) (wideC C rows l)).2 (k : Int)).toNat = r := by
  have hp := primeB_range hpr
  have hW := wideC_mat hp.1 hM hl
  have hWl := wideC_length C rows l
  have hR := full_rref hpr hW (by omega)
  have hE := (full_ech hp.1 hW (by omega)).1
  have hker := full_ker (z := colZ (fullB p (rows.length + 1) (wideC C rows l)).1 (fullB p (rows.length + 1) (wideC C rows l)).2 r) hpr hW (by omega)
  have hk := wideC_ker.mp (hker.mpr (colZ_ker hR hE.le (by omega)))
  apply Classical.byContradiction
  intro hno
  refine hf ⟨fun u => -colZ (fullB p (rows.length + 1) (wideC C rows l)).1 (fullB p (rows.length + 1) (wideC C rows l)).2 r u, fun j hj => ?_⟩
  have h1 := hk j hj
  rw [colZ_high hR hr, Int.zero_mul, Int.add_zero] at h1
  have e9 : sumN rows.length (fun u => colZ (fullB p (rows.length + 1) (wideC C rows l)).1 (fullB p (rows.length + 1) (wideC C rows l)).2 r u * elm (grp rows u) j) = sumN (r + 1) (fun u => colZ (fullB p (rows.length + 1) (wideC C rows l)).1 (fullB p (rows.length + 1) (wideC C rows l)).2 r u * elm (grp rows u) j) := sumN_cut (n := rows.length) (r := r + 1) (by omega) (fun u h2 _ => by show colZ (fullB p (rows.length + 1) (wideC C rows l)).1 (fullB p (rows.length + 1) (wideC C rows l)).2 r u * _ = 0; rw [colZ_high (r := r) (u := u) hR (by omega), Int.zero_mul])
  rw [e9] at h1
  replace h1 : Eqm p (sumN r (fun u => colZ (fullB p (rows.length + 1) (wideC C rows l)).1 (fullB p (rows.length + 1) (wideC C rows l)).2 r u * elm (grp rows u) j) + colZ (fullB p (rows.length + 1) (wideC C rows l)).1 (fullB p (rows.length + 1) (wideC C rows l)).2 r r * elm (grp rows r) j) 0 := h1
  rw [colZ_self (p := p) (D := 0) (fun k hk2 e => hno ⟨k, hk2, e⟩), Int.one_mul] at h1
  have e : sumN r (fun u => -colZ (fullB p (rows.length + 1) (wideC C rows l)).1 (fullB p (rows.length + 1) (wideC C rows l)).2 r u * elm (grp rows u) j) = (-1) * sumN r (fun u => colZ (fullB p (rows.length + 1) (wideC C rows l)).1 (fullB p (rows.length + 1) (wideC C rows l)).2 r u * elm (grp rows u) j) := by
    rw [← sumN_mul]
    exact sumN_congr fun u _ => by grind
  show Eqm p _ (sumN r _)
  rw [e]
  have h2 := Eqm.sub h1 (Eqm.rfl_ p (sumN r (fun u => colZ (fullB p (rows.length + 1) (wideC C rows l)).1 (fullB p (rows.length + 1) (wideC C rows l)).2 r u * elm (grp rows u) j)))
  exact Eqm.trans (Eqm.of_eq (by omega)) (Eqm.trans h2 (Eqm.of_eq (by omega)))

end Go.Proofs.Ytjpbemomocccaaa.P

namespace Go.Proofs.Ytjpbemomocccaaa.P
open Go.RowKit Go.Proofs.YtjpbemomocccaaaW.PrintWords Go.Proofs.YtjpbemomocccaaaW.PrintLast Go.Proofs.YtjpbemomocccaaaW.PrintMore
attribute [local go_sem] max2_int min2_int max_two min_two max_three min_three max_four min_four
set_option linter.unusedVariables false
set_option linter.unusedSimpArgs false

/-! ### spec_l03Combine: function 73 -/
end Go.Proofs.Ytjpbemomocccaaa.P

namespace Go.Proofs.Ytjpbemomocccaaa.P
open Go.RowKit Go.Proofs.YtjpbemomocccaaaW.PrintWords Go.Proofs.YtjpbemomocccaaaW.PrintLast Go.Proofs.YtjpbemomocccaaaW.PrintMore
attribute [local go_sem] max2_int min2_int max_two min_two max_three min_three max_four min_four
set_option linter.unusedVariables false
set_option linter.unusedSimpArgs false

/-! ### spec_IsSpanned: function 25 -/
end Go.Proofs.Ytjpbemomocccaaa.P

namespace Go.Proofs.Ytjpbemomocccaaa.P
open Go.RowKit Go.Proofs.YtjpbemomocccaaaW.PrintWords Go.Proofs.YtjpbemomocccaaaW.PrintLast Go.Proofs.YtjpbemomocccaaaW.PrintMore
attribute [local go_sem] max2_int min2_int max_two min_two max_three min_three max_four min_four
set_option linter.unusedVariables false
set_option linter.unusedSimpArgs false

/-! ### spec_Combination: function 29 -/
end Go.Proofs.Ytjpbemomocccaaa.P

namespace Go.Proofs.Ytjpbemomocccaaa.P
open Go.RowKit Go.Proofs.YtjpbemomocccaaaW.PrintWords Go.Proofs.YtjpbemomocccaaaW.PrintLast Go.Proofs.YtjpbemomocccaaaW.PrintMore
attribute [local go_sem] max2_int min2_int max_two min_two max_three min_three max_four min_four
set_option linter.unusedVariables false
set_option linter.unusedSimpArgs false

theorem ask_ready {p cols : Int} {rows : List (List Int)} {l : List Int} (h : askB p cols rows l cols = 0) : (2 ≤ p ∧ p ≤ 31) ∧ (cols.toNat : Int) = cols ∧ cols.toNat ≤ 12 ∧ MatP p cols.toNat rows ∧ rows.length ≤ 20 ∧ RowP p cols.toNat l := by
  obtain ⟨hv, h1, h2⟩ := ask_parts h
  obtain ⟨g1, g2, g3, g4, g5⟩ := MatP_of_valid hv
  have := RowP_list g1.1 h2
  rw [show l.length = cols.toNat by omega] at this
  exact ⟨g1, g2, g3, g5, g4, this⟩
def CombRes (p cols : Int) (rows : List (List Int)) (l : List Int) : List Int × Int := if askB p cols rows l cols = 0 then (if (solveB p rows.length (turnB cols.toNat rows) l).2 = true then ((solveB p rows.length (turnB cols.toNat rows) l).1, 0) else ([], 6)) else ([], askB p cols rows l cols)
def SpanRes (p cols : Int) (rows : List (List Int)) (l : List Int) : Bool × Int := if askB p cols rows l cols = 0 then ((solveB p rows.length (turnB cols.toNat rows) l).2, 0) else (false, askB p cols rows l cols)
end Go.Proofs.Ytjpbemomocccaaa.P

namespace Go.Proofs.Ytjpbemomocccaaa.P
open Go.RowKit Go.Proofs.YtjpbemomocccaaaW.PrintWords Go.Proofs.YtjpbemomocccaaaW.PrintLast Go.Proofs.YtjpbemomocccaaaW.PrintMore
attribute [local go_sem] max2_int min2_int max_two min_two max_three min_three max_four min_four
set_option linter.unusedVariables false
set_option linter.unusedSimpArgs false

theorem solGo_false {n : Nat} {E : List (List Int)} {piv : List Int} : ∀ (d i : Nat) (out : List Int), i + d = piv.length → (∃ k : Nat, i ≤ k ∧ k < piv.length ∧ rd piv (k : Int) = (n : Int)) → solGo n E piv d i out = ([], false) := by
  intro d
  induction d with
  | zero => intro i out hi h; obtain ⟨k, h1, h2, _⟩ := h; omega
  | succ d ih =>
    intro i out hi h
    unfold solGo
    by_cases h0 : rd piv (i : Int) = (n : Int)
    · rw [if_pos h0]
    · rw [if_neg h0]
      obtain ⟨k, h1, h2, h3⟩ := h
      have : k ≠ i := fun e => h0 (by rw [← e]; exact h3)
      exact ih _ _ (by omega) ⟨k, by omega, h2, h3⟩
theorem solGo_true {n : Nat} {E : List (List Int)} {piv : List Int} (hr : ∀ k : Nat, k < piv.length → 0 ≤ rd piv (k : Int) ∧ rd piv (k : Int) < (n : Int)) (hi : ∀ k l : Nat, k < l → l < piv.length → rd piv (k : Int) < rd piv (l : Int)) : ∀ (d i : Nat) (out : List Int), i + d = piv.length → out.length = n →
    ∃ res, solGo n E piv d i out = (res, true) ∧ res.length = n ∧ (∀ k : Nat, i ≤ k → k < piv.length → elm res (rd piv (k : Int)).toNat = rd (grp E k) (n : Int)) ∧ ∀ r, (∀ k : Nat, i ≤ k → k < piv.length → (rd piv (k : Int)).toNat ≠ r) → elm res r = elm out r := by
  intro d
  induction d with
  | zero => intro i out hd ho; exact ⟨out, rfl, ho, fun k h1 h2 => by omega, fun r _ => rfl⟩
  | succ d ih =>
    intro i out hd ho
    have hpi := hr i (by omega)
    unfold solGo
    rw [if_neg (by omega)]
    obtain ⟨res, e, hl, h1, h2⟩ := ih (i + 1) (out.set (rd piv (i : Int)).toNat (rd (grp E i) (n : Int))) (by omega) (by rw [List.length_set]; exact ho)
    refine ⟨res, e, hl, fun k hk1 hk2 => ?_, fun r hrk => ?_⟩
    · by_cases hki : k = i
      · subst hki
        rw [h2 _ fun k' hk' hk2' => by have := hi k k' (by omega) hk2'; have := hr k' hk2'; omega]
        unfold elm
        rw [getD_set _ _ _ _ _ (by omega), if_pos rfl]
      · exact h1 k (by omega) hk2
    · rw [h2 r fun k hk1 hk2 => hrk k (by omega) hk2]
      unfold elm
      rw [getD_set _ _ _ _ _ (by omega), if_neg (Ne.symm (hrk i (Nat.le_refl _) (by omega)))]
/-- A solution that lies on free rows alone is the reference's. -/
theorem comb_same {p : Int} {C : Nat} {rows : List (List Int)} {l x : List Int} (hpr : primeB p = true) (hM : MatP p C rows) (hl : RowP p C l) (hC : C ≤ 900) (hx : RowP p rows.length x) (hs : ∀ r, r < rows.length → ¬ FreeP p C rows r → elm x r = 0) (hm : ∀ j, j < C → Eqm p (sumN rows.length (fun r => elm x r * elm (grp rows r) j)) (elm l j)) :
    solveB p rows.length (turnB C rows) l = (x, true) := by
  have hp := primeB_range hpr
  have hW := wideC_mat hp.1 hM hl
  have hWl := wideC_length C rows l
  have hR := full_rref hpr hW (by omega)
  have hE := (full_ech hp.1 hW (by omega)).1
  have hFl := (full_ech hp.1 hW (by omega)).2
  have hker := full_ker (z := fun u => if u = rows.length then -1 else elm x u) hpr hW (by omega)
  have hk : KerP p (rows.length + 1) (fullB p (rows.length + 1) (wideC C rows l)).1 (fun u => if u = rows.length then -1 else elm x u) := hker.mp (wideC_ker.mpr fun j hj => by
    have e : sumN rows.length (fun r => (if r = rows.length then -1 else elm x r) * elm (grp rows r) j) = sumN rows.length (fun r => elm x r * elm (grp rows r) j) := sumN_congr fun r hr => by rw [if_neg (by omega)]
    show Eqm p (sumN rows.length (fun r => (if r = rows.length then -1 else elm x r) * elm (grp rows r) j) + (if rows.length = rows.length then -1 else elm x rows.length) * elm l j) 0
    rw [e, if_pos rfl]
    exact Eqm.trans (Eqm.add (hm j hj) (Eqm.rfl_ _ _)) (Eqm.of_eq (by omega)))
  have hfp : ∀ r, r < rows.length → elm x r ≠ 0 → ∃ k, k < (fullB p (rows.length + 1) (wideC C rows l)).2.length ∧ (rd (fullB p (rows.length + 1) (wideC C rows l)).2 (k : Int)).toNat = r := fun r hr hne => free_piv hpr hM hl (by omega) hr (Classical.byContradiction fun hf => hne (hs r hr hf))
  generalize hF : fullB p (rows.length + 1) (wideC C rows l) = F at *
  have hrow : ∀ k, k < F.2.length → Eqm p (sumN rows.length (fun u => elm (grp F.1 k) u * elm x u)) (elm (grp F.1 k) rows.length) := fun k hkl => by
    have h1 := hk k (by have := hE.le; omega)
    have e : sumN rows.length (fun u => elm (grp F.1 k) u * (if u = rows.length then -1 else elm x u)) = sumN rows.length (fun u => elm (grp F.1 k) u * elm x u) := sumN_congr fun u hu => by rw [if_neg (by omega)]
    replace h1 : Eqm p (sumN rows.length (fun u => elm (grp F.1 k) u * (if u = rows.length then -1 else elm x u)) + elm (grp F.1 k) rows.length * (if rows.length = rows.length then -1 else elm x rows.length)) 0 := h1
    rw [e, if_pos rfl] at h1
    have h2 := Eqm.add h1 (Eqm.rfl_ p (elm (grp F.1 k) rows.length))
    exact Eqm.trans (Eqm.of_eq (by omega)) (Eqm.trans h2 (Eqm.of_eq (by omega)))
  have hnp : ∀ k, k < F.2.length → rd F.2 (k : Int) < (rows.length : Int) := fun k hkl => by
    have h1 := hR.lt k hkl
    apply Classical.byContradiction
    intro hge
    have hkn : (rd F.2 (k : Int)).toNat = rows.length := by omega
    have hd := hR.delta k hkl k (by have := hE.le; omega)
    rw [hkn, if_pos rfl] at hd
    have h2 := hrow k hkl
    rw [hd, sumN_zero fun u hu => by rw [hR.left k hkl u (by omega), Int.zero_mul]] at h2
    have := Eqm.eq_of h2 (by omega) (by omega)
    omega
  unfold solveB
  show solGo rows.length (echB p (rows.length + 1) (wideC C rows l)).1 (echB p (rows.length + 1) (wideC C rows l)).2 (echB p (rows.length + 1) (wideC C rows l)).2.length 0 _ = _
  unfold echB
  rw [hF]
  obtain ⟨res, e, hresl, r1, r2⟩ := solGo_true (n := rows.length) (E := F.1.take F.2.length) (piv := F.2) (fun k hkl => ⟨(hR.lt k hkl).1, hnp k hkl⟩) (fun k m hkm hml => hR.incr k m hkm hml) F.2.length 0 (List.replicate rows.length 0) (Nat.zero_add _) (by simp)
  show solGo rows.length (F.1.take F.2.length) F.2 F.2.length 0 (List.replicate rows.length 0) = (x, true)
  rw [e]
  refine Prod.ext ?_ rfl
  refine list_eq_getD 0 (by rw [hresl, hx.1]) fun r hr => ?_
  rw [hresl] at hr
  show elm res r = elm x r
  by_cases hpv : ∃ k, k < F.2.length ∧ (rd F.2 (k : Int)).toNat = r
  · obtain ⟨k, hkl, rfl⟩ := hpv
    rw [r1 k (Nat.zero_le _) hkl, rd_cast]
    have eg : grp (F.1.take F.2.length) k = grp F.1 k := by
      unfold grp
      rw [getD_take, if_pos hkl]
    rw [eg]
    have h2 := hrow k hkl
    have hkk := hR.delta k hkl k (by have := hE.le; omega)
    have hz : sumN rows.length (fun u => if u = (rd F.2 (k : Int)).toNat then 0 else elm (grp F.1 k) u * elm x u) = 0 := sumN_zero fun u hu => by
      by_cases hu2 : u = (rd F.2 (k : Int)).toNat
      · rw [if_pos hu2]
      · rw [if_neg hu2]
        by_cases hu3 : elm x u = 0
        · rw [hu3, Int.mul_zero]
        · obtain ⟨k', hk', e'⟩ := hfp u hu hu3
          have hd := hR.delta k' hk' k (by have := hE.le; omega)
          rw [e', if_neg (fun e2 => hu2 (by rw [e2]; exact e'.symm))] at hd
          rw [hd, Int.zero_mul]
    rw [sumN_apart hr, hz, hkk, if_pos rfl] at h2
    have hEk := elm_range hp.1 hE.mat k rows.length (by have := hE.le; omega)
    have := Eqm.eq_of (Eqm.trans (Eqm.of_eq (by omega : elm x (rd F.2 (k : Int)).toNat = 0 + 1 * elm x (rd F.2 (k : Int)).toNat)) h2) (hx.2 _) hEk
    exact this.symm
  · rw [r2 r fun k _ hkl e2 => hpv ⟨k, hkl, e2⟩]
    have h0 : elm x r = 0 := Classical.byContradiction fun hne => hpv (hfp r hr hne)
    rw [h0]
    unfold elm
    rw [List.getD_eq_getElem?_getD, List.getElem?_replicate]
    split <;> rfl

end Go.Proofs.Ytjpbemomocccaaa.P

namespace Go.Proofs.Ytjpbemomocccaaa.P
open Go.RowKit Go.Proofs.YtjpbemomocccaaaW.PrintWords Go.Proofs.YtjpbemomocccaaaW.PrintLast Go.Proofs.YtjpbemomocccaaaW.PrintMore
attribute [local go_sem] max2_int min2_int max_two min_two max_three min_three max_four min_four
set_option linter.unusedVariables false
set_option linter.unusedSimpArgs false

/-- What the reference finds is a solution; where it finds none, it says so with an empty list. -/
theorem solve_gives {p : Int} {C : Nat} {rows : List (List Int)} {l : List Int} (hpr : primeB p = true) (hM : MatP p C rows) (hl : RowP p C l) (hC : C ≤ 900) :
    solveB p rows.length (turnB C rows) l = ([], false) ∨ ∃ res : List Int, ∀ j, j < C → Eqm p (sumN rows.length (fun r => elm res r * elm (grp rows r) j)) (elm l j) := by
  have hp := primeB_range hpr
  have hW := wideC_mat hp.1 hM hl
  have hWl := wideC_length C rows l
  have hR := full_rref hpr hW (by omega)
  have hE := (full_ech hp.1 hW (by omega)).1
  have hker := fun z => full_ker (z := z) hpr hW (by omega)
  unfold solveB
  show solGo rows.length (echB p (rows.length + 1) (wideC C rows l)).1 (echB p (rows.length + 1) (wideC C rows l)).2 (echB p (rows.length + 1) (wideC C rows l)).2.length 0 _ = _ ∨ _
  unfold echB
  generalize hF : fullB p (rows.length + 1) (wideC C rows l) = F at *
  by_cases hpv : ∃ k : Nat, 0 ≤ k ∧ k < F.2.length ∧ rd F.2 (k : Int) = (rows.length : Int)
  · exact Or.inl (solGo_false _ 0 _ (Nat.zero_add _) hpv)
  · refine Or.inr ?_
    have hnp : ∀ k, k < F.2.length → 0 ≤ rd F.2 (k : Int) ∧ rd F.2 (k : Int) < (rows.length : Int) := fun k hkl => by
      have h1 := hR.lt k hkl
      have : rd F.2 (k : Int) ≠ (rows.length : Int) := fun e => hpv ⟨k, Nat.zero_le _, hkl, e⟩
      omega
    obtain ⟨res, e, hresl, r1, r2⟩ := solGo_true (n := rows.length) (E := F.1) (piv := F.2) hnp (fun k m hkm hml => hR.incr k m hkm hml) F.2.length 0 (List.replicate rows.length 0) (Nat.zero_add _) (by simp)
    have hzero : ∀ u, elm (List.replicate rows.length 0) u = 0 := fun u => by unfold elm; rw [List.getD_eq_getElem?_getD, List.getElem?_replicate]; split <;> rfl
    have hres0 : ∀ u, (∀ k, k < F.2.length → (rd F.2 (k : Int)).toNat ≠ u) → elm res u = 0 := fun u hu => (r2 u fun k _ hk => hu k hk).trans (hzero u)
    have hk : KerP p (rows.length + 1) F.1 (fun u => if u = rows.length then -1 else elm res u) := fun i hi => by
      refine Eqm.of_eq ?_
      have e1 : sumN rows.length (fun u => elm (grp F.1 i) u * (if u = rows.length then -1 else elm res u)) = sumN rows.length (fun u => elm (grp F.1 i) u * elm res u) := sumN_congr fun u hu => by rw [if_neg (by omega)]
      show sumN rows.length (fun u => elm (grp F.1 i) u * (if u = rows.length then -1 else elm res u)) + elm (grp F.1 i) rows.length * (if rows.length = rows.length then -1 else elm res rows.length) = 0
      rw [e1, if_pos rfl]
      by_cases hil : i < F.2.length
      · have hPi := hnp i hil
        have hz : sumN rows.length (fun u => if u = (rd F.2 (i : Int)).toNat then 0 else elm (grp F.1 i) u * elm res u) = 0 := sumN_zero fun u hu => by
          by_cases hu2 : u = (rd F.2 (i : Int)).toNat
          · rw [if_pos hu2]
          · rw [if_neg hu2]
            by_cases hu3 : ∃ k, k < F.2.length ∧ (rd F.2 (k : Int)).toNat = u
            · obtain ⟨k', hk', e'⟩ := hu3
              have hd := hR.delta k' hk' i hi
              rw [e', if_neg (fun e2 => hu2 (by rw [e2]; exact e'.symm))] at hd
              rw [hd, Int.zero_mul]
            · rw [hres0 u fun k hk e2 => hu3 ⟨k, hk, e2⟩, Int.mul_zero]
        have hd := hR.delta i hil i hi
        rw [if_pos rfl] at hd
        rw [sumN_apart (a := (rd F.2 (i : Int)).toNat) (by omega), hz, hd, r1 i (Nat.zero_le _) hil, rd_cast]
        show 0 + 1 * elm (grp F.1 i) rows.length + elm (grp F.1 i) rows.length * -1 = 0
        omega
      · rw [sumN_zero fun u hu => by rw [hR.zero i (by omega) hi u (by omega), Int.zero_mul], hR.zero i (by omega) hi rows.length (by omega)]
        rfl
    refine ⟨res, fun j hj => ?_⟩
    have h1 := wideC_ker.mp ((hker _).mpr hk) j hj
    have e2 : sumN rows.length (fun r => (if r = rows.length then -1 else elm res r) * elm (grp rows r) j) = sumN rows.length (fun r => elm res r * elm (grp rows r) j) := sumN_congr fun r hr => by rw [if_neg (by omega)]
    replace h1 : Eqm p (sumN rows.length (fun r => (if r = rows.length then -1 else elm res r) * elm (grp rows r) j) + (if rows.length = rows.length then -1 else elm res rows.length) * elm l j) 0 := h1
    rw [e2, if_pos rfl] at h1
    have h2 := Eqm.add h1 (Eqm.rfl_ p (elm l j))
    exact Eqm.trans (Eqm.of_eq (by omega)) (Eqm.trans h2 (Eqm.of_eq (by omega)))
/-- What the program finds. -/
def leftB (p : Int) (rows : List (List Int)) (l : List Int) : List Int × List Int := lessB p (basisB p rows.length rows) (l, List.replicate rows.length 0)
def combB (p : Int) (rows : List (List Int)) (l : List Int) : List Int × Bool := if leadN (leftB p rows l).1 < (leftB p rows l).1.length then ([], false) else (timesB p (p - 1) (leftB p rows l).2, true)
theorem comb_solve {p : Int} {C : Nat} {rows : List (List Int)} {l : List Int} (hpr : primeB p = true) (hM : MatP p C rows) (hl : RowP p C l) (hC : C ≤ 900) : combB p rows l = solveB p rows.length (turnB C rows) l := by
  have hp := primeB_range hpr
  have hfull : FullP p C rows.length rows rows.length (basisB p rows.length rows) := full_all (C := C) hpr hM rfl rows.length (Nat.le_refl _)
  have hx0 : PartP p C rows.length (l, List.replicate rows.length 0) := ⟨hl, RowP_zero hp.1 _⟩
  have hz0 : ∀ u, elm (List.replicate rows.length 0) u = 0 := fun u => by unfold elm; rw [List.getD_eq_getElem?_getD, List.getElem?_replicate]; split <;> rfl
  have hm0 : MadeOf p C rows (elm l) (l, List.replicate rows.length 0) := fun j hj => by
    refine Eqm.of_eq ?_
    show elm l j = elm l j + sumN rows.length (fun r => elm (List.replicate rows.length 0) r * elm (grp rows r) j)
    rw [sumN_zero fun r _ => by rw [hz0, Int.zero_mul]]
    omega
  obtain ⟨f1, f2, f3, c, f4⟩ := less_facts hp.1 rfl hfull.basis hx0 hm0 (basisB p rows.length rows).length (Nat.le_refl _)
  have fs := fun r (hr : ¬ FreeP p C rows r) => less_sup (p := p) (r := r) (parts := basisB p rows.length rows) (x := (l, List.replicate rows.length 0)) (hz0 r) (fun s hs => hfull.sup s hs r hr) (basisB p rows.length rows).length (Nat.le_refl _)
  rw [List.take_length] at f1 f2 f3 f4 fs
  unfold combB leftB
  have hseen := hfull.seen
  have hB := hfull.basis
  change ∀ r, r < rows.length → SpanB p C (basisB p rows.length rows) (elm (grp rows r)) at hseen
  change BasisP p C rows.length rows (basisB p rows.length rows) at hB
  generalize lessB p (basisB p rows.length rows) (l, List.replicate rows.length 0) = x at *
  replace f4 : ∀ j, j < C → Eqm p (elm x.1 j) (elm l j + sumN (basisB p rows.length rows).length (fun s => c s * elm (ptB (basisB p rows.length rows) s).1 j)) := f4
  by_cases hlead : leadN x.1 < x.1.length
  · rw [if_pos hlead]
    rcases solve_gives hpr hM hl hC with h | ⟨res, hres⟩
    · exact h.symm
    · exfalso
      have hspl : SpanB p C (basisB p rows.length rows) (elm l) := span_eq (fun j hj => Eqm.symm (hres j hj)) (span_sum rows.length hseen)
      have hsx : SpanB p C (basisB p rows.length rows) (elm x.1) := span_eq (fun j hj => Eqm.trans (f4 j hj) (Eqm.of_eq (by rw [Int.one_mul]))) (span_add (a := 1) hspl ⟨c, fun j _ => Eqm.rfl_ _ _⟩)
      have h1 := span_zero hB hsx (fun s hs => Eqm.of_eq (f3 s hs)) (leadN x.1) (by have := f1.1.1; omega)
      exact leadN_ne hlead (Eqm.eq_of h1 (f1.1.2 _) (by omega))
  · rw [if_neg hlead]
    have hz := leadN_none hlead
    refine (comb_same hpr hM hl hC (timesB_row hp.1 f1.2) (fun r hr hf => elm_timesB_zero (fs r hf)) (fun j hj => ?_)).symm
    have h2 := f2 j hj
    rw [hz j] at h2
    refine Eqm.trans (Eqm.sumN_ fun r _ => Eqm.mul elm_times (Eqm.rfl_ _ _)) ?_
    have e : sumN rows.length (fun r => elm x.2 r * (p - 1) * elm (grp rows r) j) = (p - 1) * sumN rows.length (fun r => elm x.2 r * elm (grp rows r) j) := by
      rw [← sumN_mul]
      exact sumN_congr fun r _ => by grind
    rw [e]
    have h3 := Eqm.mul (Eqm.rfl_ p (p - 1)) h2
    obtain ⟨k, hk⟩ := h2
    exact ⟨sumN rows.length (fun r => elm x.2 r * elm (grp rows r) j) + k, by grind⟩

end Go.Proofs.Ytjpbemomocccaaa.P

namespace Go.Proofs.Ytjpbemomocccaaa.P
open Go.RowKit Go.Proofs.YtjpbemomocccaaaW.PrintWords Go.Proofs.YtjpbemomocccaaaW.PrintLast Go.Proofs.YtjpbemomocccaaaW.PrintMore
attribute [local go_sem] max2_int min2_int max_two min_two max_three min_three max_four min_four
set_option linter.unusedVariables false
set_option linter.unusedSimpArgs false

theorem basis_mem {p : Int} {C n : Nat} {rows : List (List Int)} {parts : List (List Int × List Int)} (hB : BasisP p C n rows parts) : ∀ b ∈ parts, PartP p C n b ∧ leadN b.1 < C := by
  intro b hb
  obtain ⟨s, hs, rfl⟩ := List.getElem_of_mem hb
  have e : ptB parts s = parts[s] := by unfold ptB; rw [List.getD_eq_getElem?_getD, List.getElem?_eq_getElem hs]; rfl
  exact ⟨e ▸ hB.part s hs, e ▸ hB.lead s hs⟩
theorem lead_ev (l : List Int) (hl : l.length ≤ 1000) : Ev (fun k => impl_first.f k l) (if leadN l < l.length then (leadN l : Int) else -1) := impl_first_ev l hl
theorem combRows_ev {p : Int} {C : Nat} {rows : List (List Int)} (hpr : primeB p = true) (hC : C ≤ 900) (hn : rows.length ≤ 900) (hM : MatP p C rows) : ∀ (d i : Nat) (parts : List (List Int × List Int)), i + d = rows.length → FullP p C rows.length rows i parts → Ev (fun k => combRows k p rows parts (i : Int)) ((List.range' i d).foldl (takeRow p rows.length rows) parts) := by
  have hp := primeB_range hpr
  intro d
  induction d with
  | zero =>
    intro i parts hi h
    refine Ev.step (f := fun _ => some parts) (fun k => ?_) (Ev.now _)
    simp only [combRows]
    rw [if_neg (by omega)]
  | succ d ih =>
    intro i parts hi h
    have hil : i < rows.length := by omega
    have hri := hM i hil
    have hrl := hri.1
    have hx0 : PartP p C rows.length (grp rows i, unitB rows.length i) := ⟨hri, RowP_set (RowP_zero hp.1 _) hil (by omega)⟩
    have hless := combLess_ev hp (by omega) (by omega) (by have := h.small; omega) (basis_mem h.basis) parts.length 0 _ (Nat.zero_add _) hx0
    rw [List.drop_zero] at hless
    obtain ⟨f1, -⟩ := less_facts hp.1 rfl h.basis hx0 (unit_made rfl hil) parts.length (Nat.le_refl _)
    rw [List.take_length] at f1
    have hnext := ih (i + 1) _ (by omega) (full_step hpr hM rfl hil h)
    rw [List.range'_succ, List.foldl_cons]
    have hsm := h.small
    refine Ev.step (f := fun k => (combLess k p parts (grp rows i) (unitB rows.length i) 0).bind fun x => ((impl_first.f k x.1).bind fun f => if 0 ≤ f then (if f < (x.1.length : Int) then ((impl_inverse.f k p (rd x.1 f)).bind fun by_ => ((impl_scaled.f k p x.1 by_).bind fun r2 => ((impl_scaled.f k p x.2 by_).bind fun f2 => if parts.length < 1048576 then combRows k p rows (parts ++ [(r2, f2)]) ((i + 1 : Nat) : Int) else none))) else none) else combRows k p rows parts ((i + 1 : Nat) : Int))) (fun k => ?_) (Ev.bind hless ?_)
    · simp only [combRows]
      rw [if_pos (by omega), if_pos (by omega), if_pos (by omega), rdL_cast, clone_eq _ (by omega), wr (by omega) (by omega), Int.toNat_natCast]
      rfl
    · unfold takeRow putB at hnext ⊢
      generalize lessB p parts (grp rows i, unitB rows.length i) = x at *
      have hx1 := f1.1.1
      refine Ev.bind (lead_ev x.1 (by omega)) ?_
      by_cases hl : leadN x.1 < x.1.length
      · rw [if_pos hl] at hnext ⊢
        rw [if_pos hl]
        simp only [if_pos (show (0 : Int) ≤ ((leadN x.1 : Nat) : Int) by omega), if_pos (show ((leadN x.1 : Nat) : Int) < (x.1.length : Int) by omega), rd_cast, if_pos (show parts.length < 1048576 by omega)]
        have hinv := invB_range (a := elm x.1 (leadN x.1)) hp.1
        exact Ev.bind (impl_inverse_ev p _ hp (f1.1.2 _)) (Ev.bind (impl_scaled_ev hp (by omega) f1.1 (by unfold elm at hinv; omega)) (Ev.bind (impl_scaled_ev hp (by omega) f1.2 (by unfold elm at hinv; omega)) hnext))
      · rw [if_neg hl] at hnext ⊢
        rw [if_neg hl]
        simp only [if_neg (show ¬ (0 : Int) ≤ -1 by omega)]
        exact hnext
theorem combMain_ev {p : Int} {C : Nat} {rows : List (List Int)} {l : List Int} (hpr : primeB p = true) (hC : C ≤ 900) (hn : rows.length ≤ 900) (hM : MatP p C rows) (hl : RowP p C l) : Ev (fun k => combMain k p rows l) (combB p rows l) := by
  have hp := primeB_range hpr
  have hll := hl.1
  have hrows := combRows_ev hpr hC hn hM rows.length 0 [] (Nat.zero_add _) (full_start p C rows.length rows)
  rw [← List.range_eq_range'] at hrows
  have hfull : FullP p C rows.length rows rows.length (basisB p rows.length rows) := full_all (C := C) hpr hM rfl rows.length (Nat.le_refl _)
  have hx0 : PartP p C rows.length (l, List.replicate rows.length 0) := ⟨hl, RowP_zero hp.1 _⟩
  have hless := combLess_ev hp (by omega) (by omega) (by have := hfull.small; omega) (basis_mem hfull.basis) (basisB p rows.length rows).length 0 _ (Nat.zero_add _) hx0
  rw [List.drop_zero] at hless
  have f1 : PartP p C rows.length (lessB p (basisB p rows.length rows) (l, List.replicate rows.length 0)) := by
    have key : ∀ (ps : List (List Int × List Int)) (x : List Int × List Int), PartP p C rows.length x → PartP p C rows.length (lessB p ps x) := by
      intro ps
      induction ps with
      | nil => intro x h; exact h
      | cons b ps ih => intro x h; exact ih _ (lessStep_P hp.1 h)
    exact key _ _ hx0
  unfold combMain
  refine Ev.bind hrows ?_
  rw [clone_eq _ (by omega)]
  unfold combB leftB
  refine Ev.bind (Ev.now l) ?_
  have hless2 : Ev (fun k => combLess k p (basisB p rows.length rows) l (List.replicate rows.length 0) 0) (lessB p (basisB p rows.length rows) (l, List.replicate rows.length 0)) := hless
  refine Ev.bind hless2 ?_
  generalize lessB p (basisB p rows.length rows) (l, List.replicate rows.length 0) = x at *
  have hx1 := f1.1.1
  refine Ev.bind (lead_ev x.1 (by omega)) ?_
  by_cases hld : leadN x.1 < x.1.length
  · rw [if_pos hld, if_pos hld]
    simp only [if_pos (show (0 : Int) ≤ ((leadN x.1 : Nat) : Int) by omega)]
    exact Ev.now _
  · rw [if_neg hld, if_neg hld]
    simp only [if_neg (show ¬ (0 : Int) ≤ -1 by omega), wr (x := p - 1) (by omega) (by omega)]
    exact Ev.bind (impl_scaled_ev hp (by omega) f1.2 (by omega)) (Ev.now _)

end Go.Proofs.Ytjpbemomocccaaa.P

namespace Go.Proofs.Ytjpbemomocccaaa.P
open Go.RowKit Go.Proofs.YtjpbemomocccaaaW.PrintWords Go.Proofs.YtjpbemomocccaaaW.PrintLast Go.Proofs.YtjpbemomocccaaaW.PrintMore
attribute [local go_sem] max2_int min2_int max_two min_two max_three min_three max_four min_four
set_option linter.unusedVariables false
set_option linter.unusedSimpArgs false

theorem comb_ev {p cols : Int} {rows : List (List Int)} {l : List Int} (h : askB p cols rows l cols = 0) : Ev (fun k => impl_Matrix_combination.f k p cols rows l) (solveB p rows.length (turnB cols.toNat rows) l) := by
  obtain ⟨g1, g2, g3, g4, g5, g6⟩ := ask_ready h
  have hpr := prime_of_valid (ask_parts h).1
  have := combMain_ev hpr (by omega) (by omega) g4 g6
  rw [comb_solve hpr g4 g6 (by omega)] at this
  exact this
theorem impl_Combination_ev (p cols : Int) (rows : List (List Int)) (l : List Int) (hl : rows.length ≤ 4611686018427387904) (hr : ∀ r ∈ rows, r.length ≤ 4611686018427387904) (hll : l.length ≤ 4611686018427387904) : Ev (fun k => impl_Combination.f k p cols rows l) (CombRes p cols rows l) := by
  unfold impl_Combination.f CombRes
  refine Ev.bind (impl_targetCode_ev p cols rows l _ hl hr hll) ?_
  by_cases h : askB p cols rows l cols = 0
  · simp only [if_pos h]
    refine Ev.bind (comb_ev h) ?_
    split <;> exact Ev.now _
  · simp only [if_neg h]; exact Ev.now _
theorem impl_IsSpanned_ev (p cols : Int) (rows : List (List Int)) (l : List Int) (hl : rows.length ≤ 4611686018427387904) (hr : ∀ r ∈ rows, r.length ≤ 4611686018427387904) (hll : l.length ≤ 4611686018427387904) : Ev (fun k => impl_IsSpanned.f k p cols rows l) (SpanRes p cols rows l) := by
  unfold impl_IsSpanned.f SpanRes
  refine Ev.bind (impl_targetCode_ev p cols rows l _ hl hr hll) ?_
  by_cases h : askB p cols rows l cols = 0
  · simp only [if_pos h]
    exact Ev.bind (comb_ev h) (Ev.now _)
  · simp only [if_neg h]; exact Ev.now _

end Go.Proofs.Ytjpbemomocccaaa.P

namespace Go.Proofs.Ytjpbemomocccaaa.P
open Go.RowKit Go.Proofs.YtjpbemomocccaaaW.PrintWords Go.Proofs.YtjpbemomocccaaaW.PrintLast Go.Proofs.YtjpbemomocccaaaW.PrintMore
attribute [local go_sem] max2_int min2_int max_two min_two max_three min_three max_four min_four
set_option linter.unusedVariables false
set_option linter.unusedSimpArgs false

def BytesP (code : List Int) : Prop := ∀ x ∈ code, 0 ≤ x ∧ x ≤ 255
theorem bytes_rd {code : List Int} (hc : BytesP code) (i : Int) : 0 ≤ rd code i ∧ rd code i ≤ 255 := by
  unfold rd
  rw [List.getD_eq_getElem?_getD]
  by_cases h : i.toNat < code.length
  · rw [List.getElem?_eq_getElem h]; exact hc _ (List.getElem_mem h)
  · rw [List.getElem?_eq_none (by omega)]; exact ⟨Int.le_refl 0, by decide⟩
theorem and255 (x : Int) (h0 : 0 ≤ x) (h1 : x < 18446744073709551616) : 0 ≤ Go.bits .and .u64 x 255 ∧ Go.bits .and .u64 x 255 ≤ 255 := by
  obtain ⟨n, rfl⟩ := Int.eq_ofNat_of_zero_le h0
  have e := Go.bits_and_u64_nat n 255 (by omega) (by omega)
  have h2 : n &&& 255 ≤ 255 := Nat.and_le_right
  rw [show ((255 : Nat) : Int) = 255 from rfl] at e
  rw [e]
  omega
theorem u64_range (x : Int) : 0 ≤ IntKind.u64.wrap x ∧ IntKind.u64.wrap x < 18446744073709551616 := by
  simp only [IntKind.wrap, IntKind.bits, IntKind.signed]
  simp
  omega
theorem next_ok {code : List Int} (hc : BytesP code) (at_ seed : Int) (h0 : 0 ≤ at_) (h1 : at_ ≤ 4611686018427387904) : ∃ v s', spec_l00Src_next.f code at_ seed = some (v, at_ + 1, s') ∧ 0 ≤ v ∧ v ≤ 255 := by
  have hb := bytes_rd hc at_
  have hw : wrap64 (at_ + 1) = at_ + 1 := wr (by omega) (by omega)
  unfold spec_l00Src_next.f
  rw [hw]
  by_cases c1 : at_ < (code.length : Int)
  · rw [if_pos c1, if_pos h0, if_pos (show at_ + 1 ≤ (code.length : Int) by omega)]
    exact ⟨_, _, rfl, by rw [wr (by omega) (by omega)]; exact hb⟩
  · rw [if_neg c1, if_neg (show ¬ at_ + 1 ≤ (code.length : Int) by omega)]
    refine ⟨_, _, rfl, ?_⟩
    have hu := u64_range ((IntKind.u64.wrap (IntKind.u64.wrap (seed * 6364136223846793005))) + 1442695040888963407)
    generalize IntKind.u64.wrap ((IntKind.u64.wrap (IntKind.u64.wrap (seed * 6364136223846793005))) + 1442695040888963407) = z at hu ⊢
    have h3 := and255 (z / 1099511627776) (by omega) (by omega)
    generalize Go.bits .and .u64 (z / 1099511627776) 255 = v at h3 ⊢
    rw [wr (by omega) (by omega)]
    exact h3
theorem tmod_range {x n : Int} (hx : 0 ≤ x) (hn : 0 < n) : 0 ≤ Int.tmod x n ∧ Int.tmod x n < n := by
  rw [Int.tmod_eq_emod_of_nonneg hx]
  exact ⟨Int.emod_nonneg _ (by omega), Int.emod_lt_of_pos _ hn⟩
theorem pick_ok {code : List Int} (hc : BytesP code) (at_ seed n : Int) (h0 : 0 ≤ at_) (h1 : at_ ≤ 4000000000000000000) (hn : n ≤ 1000000) : ∃ v a' s', spec_l00Src_pick.f code at_ seed n = some (v, a', s') ∧ at_ ≤ a' ∧ a' ≤ at_ + 2 ∧ (n ≤ 1 → v = 0) ∧ (2 ≤ n → 0 ≤ v ∧ v < n) := by
  unfold spec_l00Src_pick.f
  by_cases c : n ≤ 1
  · rw [if_pos c]
    exact ⟨0, at_, seed, rfl, Int.le_refl _, by omega, fun _ => rfl, fun h => by omega⟩
  · rw [if_neg c]
    obtain ⟨v, s1, e1, b1, b2⟩ := next_ok hc at_ seed h0 (by omega)
    rw [e1]
    simp only [Option.bind_some]
    by_cases c2 : n > 200
    · rw [if_pos c2]
      obtain ⟨v2, s2, e2, d1, d2⟩ := next_ok hc (at_ + 1) s1 (by omega) (by omega)
      rw [e2]
      simp only [Option.bind_some]
      rw [if_neg (show ¬ n = 0 by omega), wr (x := v * 256) (by omega) (by omega), wr (x := v * 256 + v2) (by omega) (by omega)]
      exact ⟨_, _, _, rfl, by omega, by omega, fun h => absurd h c, fun _ => tmod_range (by omega) (by omega)⟩
    · rw [if_neg c2, if_neg (show ¬ n = 0 by omega)]
      exact ⟨_, _, _, rfl, by omega, by omega, fun h => absurd h c, fun _ => tmod_range b1 (by omega)⟩
theorem elm_snoc_row {p : Int} {C : Nat} {r : List Int} {v : Int} (h : RowP p C r) (hv : 0 ≤ v ∧ v ≤ p - 1) : RowP p (C + 1) (r ++ [v]) := by
  refine ⟨by rw [List.length_append, h.1]; rfl, fun j => ?_⟩
  have hz := h.2 C
  rw [List.getD_eq_getElem?_getD, List.getElem?_append]
  split
  · have := h.2 j
    rw [List.getD_eq_getElem?_getD] at this
    exact this
  · rename_i hj
    by_cases hj2 : j - r.length = 0
    · rw [hj2]; exact hv
    · rw [List.getElem?_eq_none (by simp; omega)]
      have e : r.getD C 0 = 0 := by rw [List.getD_eq_getElem?_getD, List.getElem?_eq_none (by rw [h.1]; omega)]; rfl
      rw [e] at hz
      exact hz
/-- A list that is drawn. -/
theorem A2Elements_go {code : List Int} (hc : BytesP code) (p : Int) (n : Nat) (hp : 2 ≤ p ∧ p ≤ 31) (hn : n ≤ 1000) : ∀ (d : Nat) (acc : List Int) (at_ seed : Int), acc.length + d = n → 0 ≤ at_ → at_ ≤ 2 * (acc.length : Int) → RowP p acc.length acc → ∃ l, Ev (fun k => spec_A2Elements.l0 k p (n : Int) acc (acc.length : Int) code at_ seed) l ∧ RowP p n l := by
  intro d
  induction d with
  | zero =>
    intro acc at_ seed hd h0 h1 hr
    refine ⟨acc, Ev.step (f := fun _ => some acc) (fun k => ?_) (Ev.now _), by rw [show n = acc.length by omega]; exact hr⟩
    simp only [spec_A2Elements.l0]
    rw [if_neg (by omega)]
  | succ d ih =>
    intro acc at_ seed hd h0 h1 hr
    obtain ⟨v, a', s', e, g1, g2, _, g4⟩ := pick_ok hc at_ seed p h0 (by omega) (by omega)
    have hv := g4 hp.1
    have hr2 := elm_snoc_row hr (v := v) (by omega)
    have hl : (acc ++ [v]).length = acc.length + 1 := by simp
    obtain ⟨l, e1, e2⟩ := ih (acc ++ [v]) a' s' (by omega) (by omega) (by omega) (by rw [hl]; exact hr2)
    refine ⟨l, ?_, e2⟩
    rw [hl] at e1
    refine Ev.step (f := fun k => spec_A2Elements.l0 k p (n : Int) (acc ++ [v]) ((acc.length + 1 : Nat) : Int) code a' s') (fun k => ?_) e1
    have hlt : acc.length < 17592186044416 := by omega
    have hw : wrap64 ((acc.length : Int) + 1) = ((acc.length + 1 : Nat) : Int) := by rw [wr (by omega) (by omega)]; rfl
    have hin : (acc.length : Int) < (n : Int) := by omega
    simp only [spec_A2Elements.l0, if_pos hin, e, Option.bind_some, if_pos hlt, hw]
theorem A2Elements_ok {code : List Int} (hc : BytesP code) (p : Int) (n : Nat) (hp : 2 ≤ p ∧ p ≤ 31) (hn : n ≤ 1000) : ∃ l, Ev (fun k => spec_A2Elements.f k code p (n : Int)) l ∧ RowP p n l := by
  obtain ⟨l, e, h⟩ := A2Elements_go hc p n hp hn n [] 0 0 (by simp) (by omega) (by simp) ⟨rfl, fun j => by simp; omega⟩
  refine ⟨l, ?_, h⟩
  unfold spec_A2Elements.f
  exact Ev.bind (f := fun k bt => spec_A2Elements.l0 k p (n : Int) [] 0 bt.1 bt.2.1 bt.2.2) (Ev.now (code, 0, 0)) e

end Go.Proofs.Ytjpbemomocccaaa.P

namespace Go.Proofs.Ytjpbemomocccaaa.P
open Go.RowKit Go.Proofs.YtjpbemomocccaaaW.PrintWords Go.Proofs.YtjpbemomocccaaaW.PrintLast Go.Proofs.YtjpbemomocccaaaW.PrintMore
attribute [local go_sem] max2_int min2_int max_two min_two max_three min_three max_four min_four
set_option linter.unusedVariables false
set_option linter.unusedSimpArgs false

theorem besideOne_ker {p : Int} {C : Nat} {rows : List (List Int)} {l : List Int} (hM : MatP p C rows) (z : Nat → Int) : KerP p (C + 1) (besideOne rows l) z ↔ ∀ i, i < rows.length → Eqm p (dotZ C (grp rows i) z + elm l i * z C) 0 := by
  have e : ∀ i, i < rows.length → dotZ (C + 1) (grp (besideOne rows l) i) z = dotZ C (grp rows i) z + elm l i * z C := by
    intro i hi
    have hr := (hM i hi).1
    rw [besideOne_grp hi]
    show sumN C (fun j => elm (grp rows i ++ [l.getD i 0]) j * z j) + elm (grp rows i ++ [l.getD i 0]) C * z C = _
    rw [show elm (grp rows i ++ [l.getD i 0]) C = elm l i by
      unfold elm
      rw [getD_append, if_neg (by omega), hr, Nat.sub_self]; rfl]
    rw [sumN_congr fun j hj => by
      rw [show elm (grp rows i ++ [l.getD i 0]) j = elm (grp rows i) j by
        unfold elm
        rw [getD_append, if_pos (by omega)]]]
    rfl
  constructor
  · intro h i hi
    have := h i (by rw [besideOne_length]; exact hi)
    rw [e i hi] at this
    exact this
  · intro h i hi
    rw [besideOne_length] at hi
    rw [e i hi]
    exact h i hi
/-- What the solver answers is a solution, and where there is one it finds one. -/
theorem solve_right {p : Int} {C : Nat} {rows : List (List Int)} {l : List Int} (hpr : primeB p = true) (hM : MatP p C rows) (hl : RowP p rows.length l) (hr : rows.length ≤ 900) :
    ((solveB p C rows l).2 = true → (solveB p C rows l).1.length = C ∧ (∀ j, 0 ≤ elm (solveB p C rows l).1 j ∧ elm (solveB p C rows l).1 j ≤ p - 1) ∧ ∀ i, i < rows.length → Eqm p (dotZ C (grp rows i) (elm (solveB p C rows l).1)) (elm l i)) ∧
    ((∃ x : Nat → Int, ∀ i, i < rows.length → Eqm p (dotZ C (grp rows i) x) (elm l i)) → (solveB p C rows l).2 = true) := by
  have hp := primeB_range hpr
  have hW := besideOne_mat hp.1 hM hl
  have hWl := besideOne_length rows l
  have hR := full_rref hpr hW (by omega)
  have hE := (full_ech hp.1 hW (by omega)).1
  have hker := fun z => full_ker (z := z) hpr hW (by omega)
  have hk0 := fun z => besideOne_ker (l := l) hM z
  unfold solveB echB
  generalize hF : fullB p (C + 1) (besideOne rows l) = F at *
  show ((solGo C (F.1.take F.2.length) F.2 F.2.length 0 (List.replicate C 0)).2 = true → _) ∧ _
  by_cases hpv : ∃ k : Nat, 0 ≤ k ∧ k < F.2.length ∧ rd F.2 (k : Int) = (C : Int)
  · have eF : solGo C (F.1.take F.2.length) F.2 F.2.length 0 (List.replicate C 0) = ([], false) := solGo_false _ 0 _ (Nat.zero_add _) hpv
    refine ⟨fun h => ?_, fun h => ?_⟩
    · rw [eF] at h
      exact absurd h (by decide)
    · exfalso
      obtain ⟨x, hx⟩ := h
      obtain ⟨k, _, hk, hkC⟩ := hpv
      have hz : KerP p (C + 1) F.1 (fun u => if u = C then -1 else x u) := (hker _).mp ((hk0 _).mpr fun i hi => by
        have e1 : dotZ C (grp rows i) (fun u => if u = C then -1 else x u) = dotZ C (grp rows i) x := sumN_congr fun j hj => by
          show elm (grp rows i) j * (if j = C then -1 else x j) = _
          rw [if_neg (by omega)]
        rw [e1, if_pos rfl]
        have h2 := Eqm.add (hx i hi) (Eqm.rfl_ p (elm l i * -1))
        exact Eqm.trans h2 (Eqm.of_eq (by omega)))
      have hkl : k < F.1.length := Nat.lt_of_lt_of_le hk hE.le
      have h1 := hz k hkl
      have hd := hR.delta k hk k hkl
      rw [if_pos rfl, hkC, Int.toNat_natCast] at hd
      have e : dotZ (C + 1) (grp F.1 k) (fun u => if u = C then -1 else x u) = -1 := by
        show sumN C (fun j => elm (grp F.1 k) j * (if j = C then -1 else x j)) + elm (grp F.1 k) C * (if C = C then -1 else x C) = -1
        rw [if_pos rfl, hd, sumN_zero fun j hj => by rw [hR.left k hk j (by rw [hkC, Int.toNat_natCast]; exact hj), Int.zero_mul]]
        rfl
      rw [e] at h1
      have h3 : Eqm p (-1 + p) (0 + 0) := Eqm.add h1 (Eqm.p_ p)
      have := Eqm.eq_of h3 ⟨by omega, by omega⟩ ⟨by omega, by omega⟩
      omega
  · have hnp : ∀ k, k < F.2.length → 0 ≤ rd F.2 (k : Int) ∧ rd F.2 (k : Int) < (C : Int) := fun k hkl => by
      have h1 := hR.lt k hkl
      have : rd F.2 (k : Int) ≠ (C : Int) := fun e => hpv ⟨k, Nat.zero_le _, hkl, e⟩
      omega
    obtain ⟨res, e, hresl, r1, r2⟩ := solGo_true (n := C) (E := F.1.take F.2.length) (piv := F.2) hnp (fun k m hkm hml => hR.incr k m hkm hml) F.2.length 0 (List.replicate C 0) (Nat.zero_add _) (by simp)
    rw [e]
    have htk : ∀ k, k < F.2.length → grp (F.1.take F.2.length) k = grp F.1 k := fun k hk => by unfold grp; rw [getD_take, if_pos hk]
    have hzero : ∀ u, elm (List.replicate C 0) u = 0 := fun u => by unfold elm; rw [List.getD_eq_getElem?_getD, List.getElem?_replicate]; split <;> rfl
    have hres0 : ∀ u, (∀ k, k < F.2.length → (rd F.2 (k : Int)).toNat ≠ u) → elm res u = 0 := fun u hu => (r2 u fun k _ hk => hu k hk).trans (hzero u)
    have hresP : ∀ k, k < F.2.length → elm res (rd F.2 (k : Int)).toNat = elm (grp F.1 k) C := fun k hk => by
      rw [r1 k (Nat.zero_le _) hk, htk k hk, rd_cast]; rfl
    have hk : KerP p (C + 1) F.1 (fun u => if u = C then -1 else elm res u) := fun i hi => by
      refine Eqm.of_eq ?_
      have e1 : sumN C (fun u => elm (grp F.1 i) u * (if u = C then -1 else elm res u)) = sumN C (fun u => elm (grp F.1 i) u * elm res u) := sumN_congr fun u hu => by rw [if_neg (by omega)]
      show sumN C (fun u => elm (grp F.1 i) u * (if u = C then -1 else elm res u)) + elm (grp F.1 i) C * (if C = C then -1 else elm res C) = 0
      rw [e1, if_pos rfl]
      by_cases hil : i < F.2.length
      · have hPi := hnp i hil
        have hz : sumN C (fun u => if u = (rd F.2 (i : Int)).toNat then 0 else elm (grp F.1 i) u * elm res u) = 0 := sumN_zero fun u hu => by
          by_cases hu2 : u = (rd F.2 (i : Int)).toNat
          · rw [if_pos hu2]
          · rw [if_neg hu2]
            by_cases hu3 : ∃ k, k < F.2.length ∧ (rd F.2 (k : Int)).toNat = u
            · obtain ⟨k', hk', e'⟩ := hu3
              have hd := hR.delta k' hk' i hi
              rw [e', if_neg (fun e2 => hu2 (by rw [e2]; exact e'.symm))] at hd
              rw [hd, Int.zero_mul]
            · rw [hres0 u fun k hk e2 => hu3 ⟨k, hk, e2⟩, Int.mul_zero]
        have hd := hR.delta i hil i hi
        rw [if_pos rfl] at hd
        rw [sumN_apart (a := (rd F.2 (i : Int)).toNat) (by omega), hz, hd, hresP i hil]
        show 0 + 1 * elm (grp F.1 i) C + elm (grp F.1 i) C * -1 = 0
        omega
      · rw [sumN_zero fun u hu => by rw [hR.zero i (by omega) hi u (by omega), Int.zero_mul], hR.zero i (by omega) hi C (by omega)]
        rfl
    refine ⟨fun _ => ⟨hresl, fun j => ?_, fun i hi => ?_⟩, fun _ => rfl⟩
    · by_cases hu3 : ∃ k, k < F.2.length ∧ (rd F.2 (k : Int)).toNat = j
      · obtain ⟨k', hk', e'⟩ := hu3
        show 0 ≤ elm res j ∧ elm res j ≤ p - 1
        rw [← e', hresP k' hk']
        exact elm_range hp.1 hE.mat k' C (Nat.lt_of_lt_of_le hk' hE.le)
      · show 0 ≤ elm res j ∧ elm res j ≤ p - 1
        rw [hres0 j fun k hk e2 => hu3 ⟨k, hk, e2⟩]
        omega
    · have h1 := (hk0 _).mp ((hker _).mpr hk) i hi
      have e1 : dotZ C (grp rows i) (fun u => if u = C then -1 else elm res u) = dotZ C (grp rows i) (elm res) := sumN_congr fun j hj => by
        show elm (grp rows i) j * (if j = C then -1 else elm res j) = _
        rw [if_neg (by omega)]
      rw [e1, if_pos rfl] at h1
      show Eqm p (dotZ C (grp rows i) (elm res)) (elm l i)
      have h2 := Eqm.add h1 (Eqm.rfl_ p (elm l i))
      exact Eqm.trans (Eqm.of_eq (by omega)) (Eqm.trans h2 (Eqm.of_eq (by omega)))

end Go.Proofs.Ytjpbemomocccaaa.P

namespace Go.Proofs.Ytjpbemomocccaaa.P
open Go.RowKit Go.Proofs.YtjpbemomocccaaaW.PrintWords Go.Proofs.YtjpbemomocccaaaW.PrintLast Go.Proofs.YtjpbemomocccaaaW.PrintMore
attribute [local go_sem] max2_int min2_int max_two min_two max_three min_three max_four min_four
set_option linter.unusedVariables false
set_option linter.unusedSimpArgs false

theorem grp_setS {rows : List (List Int)} {i : Nat} {r : List Int} (hi : i < rows.length) (j : Nat) : grp (rows.set i r) j = if j = i then r else grp rows j := by unfold grp; exact getD_set _ _ _ _ _ hi
theorem mat_set {p : Int} {C i : Nat} {rows : List (List Int)} {r : List Int} (hM : MatP p C rows) (hi : i < rows.length) (hr : RowP p C r) : MatP p C (rows.set i r) := by
  intro j hj
  rw [List.length_set] at hj
  rw [grp_setS hi]
  split
  · exact hr
  · exact hM j hj
theorem mat_snoc {p : Int} {C : Nat} {rows : List (List Int)} {r : List Int} (hM : MatP p C rows) (hr : RowP p C r) : MatP p C (rows ++ [r]) := by
  intro j hj
  rw [List.length_append, List.length_singleton] at hj
  unfold grp
  rw [getD_append]
  split
  · exact hM j (by assumption)
  · rw [show j - rows.length = 0 by omega]; exact hr
theorem row_set {p : Int} {C i : Nat} {r : List Int} {v : Int} (hr : RowP p C r) (hi : i < C) (hv : 0 ≤ v ∧ v ≤ p - 1) : RowP p C (r.set i v) := by
  refine ⟨by rw [List.length_set]; exact hr.1, fun j => ?_⟩
  rw [getD_set _ _ _ _ _ (by rw [hr.1]; exact hi)]
  split
  · exact hv
  · exact hr.2 j
theorem Filled_row {code : List Int} (hc : BytesP code) (p : Int) (R C : Nat) (hp : 2 ≤ p ∧ p ≤ 31) (hC : C ≤ 1000) : ∀ (d : Nat) (acc : List Int) (at_ seed : Int), acc.length + d = C → 0 ≤ at_ → at_ + 2 * (d : Int) ≤ 1000000000 → RowP p acc.length acc →
    ∃ row a' s', RowP p C row ∧ at_ ≤ a' ∧ a' ≤ at_ + 2 * (d : Int) ∧ ∀ (i : Int) (rows : List (List Int)) r, rows.length < 1000 → Ev (fun k => spec_l03Filled.l0 k p (R : Int) (C : Int) (wrap64 (i + 1)) code a' s' p (C : Int) (rows ++ [row])) r → Ev (fun k => spec_l03Filled.l1 k p (R : Int) (C : Int) i acc (acc.length : Int) code at_ seed p (C : Int) rows) r := by
  intro d
  induction d with
  | zero =>
    intro acc at_ seed hd h0 h1 hr
    refine ⟨acc, at_, seed, by rw [show C = acc.length by omega]; exact hr, Int.le_refl _, by omega, fun i rows r hl he => ?_⟩
    refine Ev.step (f := fun k => spec_l03Filled.l0 k p (R : Int) (C : Int) (wrap64 (i + 1)) code at_ seed p (C : Int) (rows ++ [acc])) (fun k => ?_) he
    have c1 : ¬ (acc.length : Int) < (C : Int) := by omega
    have c2 : rows.length < 5864062014805 := by omega
    simp only [spec_l03Filled.l1, if_neg c1, if_pos c2]
  | succ d ih =>
    intro acc at_ seed hd h0 h1 hr
    obtain ⟨v, a1, s1, e, g1, g2, _, g4⟩ := pick_ok hc at_ seed p h0 (by omega) (by omega)
    have hv := g4 hp.1
    have hr2 := elm_snoc_row hr (v := v) (by omega)
    have hl : (acc ++ [v]).length = acc.length + 1 := by simp
    obtain ⟨row, a', s', q1, q2, q3, q4⟩ := ih (acc ++ [v]) a1 s1 (by omega) (by omega) (by omega) (by rw [hl]; exact hr2)
    refine ⟨row, a', s', q1, by omega, by omega, fun i rows r hlr he => ?_⟩
    have e1 := q4 i rows r hlr he
    rw [hl] at e1
    have hlt : acc.length < 17592186044416 := by omega
    have hin : (acc.length : Int) < (C : Int) := by omega
    have hw : wrap64 ((acc.length : Int) + 1) = ((acc.length + 1 : Nat) : Int) := by rw [wr (by omega) (by omega)]; rfl
    refine Ev.step (f := fun k => spec_l03Filled.l1 k p (R : Int) (C : Int) i (acc ++ [v]) ((acc.length + 1 : Nat) : Int) code a1 s1 p (C : Int) rows) (fun k => ?_) e1
    simp only [spec_l03Filled.l1, if_pos hin, e, Option.bind_some, if_pos hlt, hw]
theorem Filled_twice {code : List Int} (p : Int) (R C : Nat) (hp : 2 ≤ p ∧ p ≤ 31) (hC : C ≤ 1000) (i j : Nat) (hi : i < R) (hj : j < R) (at_ seed : Int) : ∀ (d x : Nat) (rows : List (List Int)), x + d = C → rows.length = R → MatP p C rows →
    ∃ rows', Ev (fun k => spec_l03Filled.l2 k p (C : Int) (i : Int) (j : Int) (x : Int) code at_ seed p (C : Int) rows) (p, (C : Int), rows', at_, seed) ∧ rows'.length = R ∧ MatP p C rows' := by
  intro d
  induction d with
  | zero =>
    intro x rows hd hl hM
    refine ⟨rows, Ev.step (f := fun _ => some (p, (C : Int), rows, at_, seed)) (fun k => ?_) (Ev.now _), hl, hM⟩
    have c1 : ¬ (x : Int) < (C : Int) := by omega
    simp only [spec_l03Filled.l2, if_neg c1]
  | succ d ih =>
    intro x rows hd hl hM
    have hi2 := hM i (by omega)
    have hj2 := hM j (by omega)
    have gi := rdL_grp rows i (by omega)
    have gj := rdL_grp rows j (by omega)
    have hb := hj2.2 x
    have hv : rd (grp rows j) (x : Int) = elm (grp rows j) x := rd_cast _ _
    have hb2 : 0 ≤ elm (grp rows j) x ∧ elm (grp rows j) x ≤ p - 1 := hb
    have ht := tmod_range (x := elm (grp rows j) x * 2) (n := p) (by omega) (by omega)
    have hr2 := row_set (i := x) hi2 (by omega) (v := Int.tmod (elm (grp rows j) x * 2) p) (by omega)
    obtain ⟨rows', e1, e2, e3⟩ := ih (x + 1) (rows.set i ((grp rows i).set x (Int.tmod (elm (grp rows j) x * 2) p))) (by omega) (by rw [List.length_set]; exact hl) (mat_set hM (by omega) hr2)
    have c1 : (x : Int) < (C : Int) := by omega
    have c2 : (0 : Int) ≤ (i : Int) := by omega
    have c3 : (i : Int) < (rows.length : Int) := by omega
    have c4 : (0 : Int) ≤ (j : Int) := by omega
    have c5 : (j : Int) < (rows.length : Int) := by omega
    have c6 : (0 : Int) ≤ (x : Int) := by omega
    have c7 : (x : Int) < ((grp rows j).length : Int) := by rw [hj2.1]; omega
    have c8 : ¬ p = 0 := by omega
    have c9 : (x : Int) < ((grp rows i).length : Int) := by rw [hi2.1]; omega
    have hm : wrap64 (elm (grp rows j) x * 2) = elm (grp rows j) x * 2 := wr (by omega) (by omega)
    have hw : wrap64 ((x : Int) + 1) = ((x + 1 : Nat) : Int) := by rw [wr (by omega) (by omega)]; rfl
    refine ⟨rows', Ev.step (f := fun k => spec_l03Filled.l2 k p (C : Int) (i : Int) (j : Int) ((x + 1 : Nat) : Int) code at_ seed p (C : Int) (rows.set i ((grp rows i).set x (Int.tmod (elm (grp rows j) x * 2) p)))) (fun k => ?_) e1, e2, e3⟩
    simp only [spec_l03Filled.l2, if_pos c1, if_pos c2, if_pos c3, if_pos c4, if_pos c5, if_pos c6, gi, gj, if_pos c7, if_neg c8, if_pos c9, hv, hm, hw, Int.toNat_natCast]
theorem Filled_go {code : List Int} (hc : BytesP code) (p : Int) (R C : Nat) (hp : 2 ≤ p ∧ p ≤ 31) (hR : R ≤ 500) (hC : C ≤ 1000) : ∀ (d : Nat) (rows : List (List Int)) (at_ seed : Int), rows.length + d = R → 0 ≤ at_ → at_ + 2 * (C : Int) * (d : Int) ≤ 100000000 → MatP p C rows →
    ∃ rows' a' s', Ev (fun k => spec_l03Filled.l0 k p (R : Int) (C : Int) (rows.length : Int) code at_ seed p (C : Int) rows) (p, (C : Int), rows', a', s') ∧ rows'.length = R ∧ MatP p C rows' := by
  intro d
  induction d with
  | zero =>
    intro rows at_ seed hd h0 h1 hM
    have c1 : ¬ (rows.length : Int) < (R : Int) := by omega
    by_cases c2 : (R : Int) > 1
    · obtain ⟨v, a1, s1, e, g1, g2, _, g4⟩ := pick_ok hc at_ seed 3 h0 (by omega) (by omega)
      have eo : spec_l00Src_one.f code at_ seed 3 = some (v == 0, a1, s1) := by unfold spec_l00Src_one.f; rw [e]; rfl
      by_cases hv : (v == 0) = true
      · obtain ⟨i, a2, s2, e2, h2, h3, _, h4⟩ := pick_ok hc a1 s1 (R : Int) (by omega) (by omega) (by omega)
        obtain ⟨j, a3, s3, e3, h5, h6, _, h7⟩ := pick_ok hc a2 s2 (R : Int) (by omega) (by omega) (by omega)
        have hi := h4 (by omega)
        have hj := h7 (by omega)
        obtain ⟨rows', q1, q2, q3⟩ := Filled_twice (code := code) p R C hp hC i.toNat j.toNat (by omega) (by omega) a3 s3 C 0 rows (by omega) (by omega) hM
        rw [show ((i.toNat : Nat) : Int) = i by omega, show ((j.toNat : Nat) : Int) = j by omega] at q1
        refine ⟨rows', a3, s3, Ev.step (f := fun k => spec_l03Filled.j2 k p (R : Int) (C : Int) true code a1 s1 p (C : Int) rows) (fun k => ?_) (Ev.step (f := fun k => spec_l03Filled.l2 k p (C : Int) i j 0 code a3 s3 p (C : Int) rows) (fun k => ?_) q1), q2, q3⟩
        · simp only [spec_l03Filled.l0, if_neg c1, if_pos c2, eo, Option.bind_some, hv]
        · simp only [spec_l03Filled.j2, e2, e3, Option.bind_some, if_true]
      · replace hv := Bool.eq_false_iff.mpr hv
        refine ⟨rows, a1, s1, Ev.step (f := fun k => spec_l03Filled.j2 k p (R : Int) (C : Int) false code a1 s1 p (C : Int) rows) (fun k => ?_) (Ev.step (f := fun _ => some (p, (C : Int), rows, a1, s1)) (fun k => ?_) (Ev.now _)), by omega, hM⟩
        · simp only [spec_l03Filled.l0, if_neg c1, if_pos c2, eo, Option.bind_some, hv]
        · simp only [spec_l03Filled.j2]
          rfl
    · refine ⟨rows, at_, seed, Ev.step (f := fun k => spec_l03Filled.j2 k p (R : Int) (C : Int) false code at_ seed p (C : Int) rows) (fun k => ?_) (Ev.step (f := fun _ => some (p, (C : Int), rows, at_, seed)) (fun k => ?_) (Ev.now _)), by omega, hM⟩
      · simp only [spec_l03Filled.l0, if_neg c1, if_neg c2]
      · simp only [spec_l03Filled.j2]
        rfl
  | succ d ih =>
    intro rows at_ seed hd h0 h1 hM
    have hmul : 2 * (C : Int) * ((d + 1 : Nat) : Int) = 2 * (C : Int) * (d : Int) + 2 * (C : Int) := by rw [show ((d + 1 : Nat) : Int) = (d : Int) + 1 from rfl, Int.mul_add, Int.mul_one]
    have hnn : 0 ≤ 2 * (C : Int) * (d : Int) := Int.mul_nonneg (by omega) (by omega)
    rw [hmul] at h1
    generalize hQ : 2 * (C : Int) * (d : Int) = Q at h1 hnn ih
    obtain ⟨row, a1, s1, q1, q2, q3, q4⟩ := Filled_row hc p R C hp hC C [] at_ seed (by simp) h0 (by omega) ⟨rfl, fun j => by simp; omega⟩
    have hl : (rows ++ [row]).length = rows.length + 1 := by simp
    obtain ⟨rows', a', s', e1, e2, e3⟩ := ih (rows ++ [row]) a1 s1 (by omega) (by omega) (by omega) (mat_snoc hM q1)
    rw [hl] at e1
    have c1 : (rows.length : Int) < (R : Int) := by omega
    have hlr : rows.length < 1000 := by omega
    have hw : wrap64 ((rows.length : Int) + 1) = ((rows.length + 1 : Nat) : Int) := by rw [wr (by omega) (by omega)]; rfl
    have e4 := q4 (rows.length : Int) rows (p, (C : Int), rows', a', s') hlr (by rw [hw]; exact e1)
    refine ⟨rows', a', s', Ev.step (f := fun k => spec_l03Filled.l1 k p (R : Int) (C : Int) (rows.length : Int) [] 0 code at_ seed p (C : Int) rows) (fun k => ?_) e4, e2, e3⟩
    simp only [spec_l03Filled.l0, if_pos c1]
theorem primes_all : ∀ n : Fin 12, primeB (rd [2, 2, 3, 3, 5, 5, 7, 7, 11, 13, 17, 31] (n.val : Int)) = true := by decide
/-- A drawn matrix is a valid one. -/
theorem A2Matrix_ok {code : List Int} (hc : BytesP code) : ∃ (p : Int) (C : Nat) (rows : List (List Int)), Ev (fun k => spec_A2Matrix.f k code) (p, (C : Int), rows) ∧ primeB p = true ∧ C ≤ 5 ∧ rows.length ≤ 5 ∧ MatP p C rows := by
  obtain ⟨v, a1, s1, e1, g1, g2, _, g3⟩ := pick_ok hc 0 0 12 (by omega) (by omega) (by omega)
  have hv := g3 (by omega)
  have hpr := primes_all ⟨v.toNat, by omega⟩
  rw [show ((v.toNat : Nat) : Int) = v by omega] at hpr
  obtain ⟨p, hpe⟩ : ∃ p, p = rd [2, 2, 3, 3, 5, 5, 7, 7, 11, 13, 17, 31] v := ⟨_, rfl⟩
  rw [← hpe] at hpr
  have hp := primeB_range hpr
  have em : spec_l03Prime.f code 0 0 = some (p, a1, s1) := by
    unfold spec_l03Prime.f spec_l00Src_among.f
    rw [show (([2, 2, 3, 3, 5, 5, 7, 7, 11, 13, 17, 31] : List Int).length : Int) = 12 from rfl, e1]
    simp only [Option.bind_some]
    rw [if_pos hv.1, if_pos hv.2, hpe]
    rfl
  obtain ⟨r, a2, s2, e2, h1, h2, _, h3⟩ := pick_ok hc a1 s1 6 (by omega) (by omega) (by omega)
  have hr := h3 (by omega)
  obtain ⟨c, a3, s3, e3, k1, k2, _, k3⟩ := pick_ok hc a2 s2 6 (by omega) (by omega) (by omega)
  have hcc := k3 (by omega)
  obtain ⟨rows, a', s', q1, q2, q3⟩ := Filled_go hc p r.toNat c.toNat hp (by omega) (by omega) r.toNat [] a3 s3 (by simp) (by omega) (by
    have : 2 * ((c.toNat : Nat) : Int) * ((r.toNat : Nat) : Int) ≤ 10 * 5 := Int.mul_le_mul (by omega) (by omega) (by omega) (by omega)
    omega) (fun i hi => absurd hi (by simp))
  refine ⟨p, c.toNat, rows, ?_, hpr, by omega, by omega, q3⟩
  rw [show ((r.toNat : Nat) : Int) = r by omega, show ((c.toNat : Nat) : Int) = c by omega] at q1
  rw [show ((c.toNat : Nat) : Int) = c by omega]
  rw [show ((([] : List (List Int)).length : Nat) : Int) = 0 from rfl] at q1
  have q4 : Ev (fun k => spec_l03Filled.f k code a3 s3 p r c) (p, c, rows, a', s') := by
    unfold spec_l03Filled.f
    exact q1
  have q5 : Ev (fun k => spec_l03Drawn.f k code 0 0) (p, c, rows, a', s') := by
    refine Ev.congr (f := fun k => (spec_l03Filled.f k code a3 s3 p r c).bind fun bt581 => some (bt581.1, bt581.2.1, bt581.2.2.1, bt581.2.2.2.1, bt581.2.2.2.2)) (fun k => ?_) (Ev.bind (f := fun _ bt => some (bt.1, bt.2.1, bt.2.2.1, bt.2.2.2.1, bt.2.2.2.2)) q4 (Ev.now _))
    unfold spec_l03Drawn.f
    rw [em]
    simp only [Option.bind_some, e2, e3]
  have q6 : Ev (fun k => (spec_l03Drawn.f k code 0 0).bind fun bt => some (bt.1, bt.2.1, bt.2.2.1)) (p, c, rows) := Ev.bind (f := fun _ bt => some (bt.1, bt.2.1, bt.2.2.1)) q5 (Ev.now _)
  refine Ev.congr (fun k => ?_) q6
  unfold spec_A2Matrix.f spec_l00From.f
  simp only [Option.bind_some]

end Go.Proofs.Ytjpbemomocccaaa.P

namespace Go.Proofs.Ytjpbemomocccaaa.P
open Go.RowKit Go.Proofs.YtjpbemomocccaaaW.PrintWords Go.Proofs.YtjpbemomocccaaaW.PrintLast Go.Proofs.YtjpbemomocccaaaW.PrintMore
attribute [local go_sem] max2_int min2_int max_two min_two max_three min_three max_four min_four
set_option linter.unusedVariables false
set_option linter.unusedSimpArgs false

theorem elemsB_row {p : Int} {C : Nat} {l : List Int} (h : RowP p C l) : elemsB p l = true := by
  unfold elemsB
  refine List.all_eq_true.mpr fun x hx => decide_eq_true ?_
  obtain ⟨i, hi, rfl⟩ := List.getElem_of_mem hx
  have := h.2 i
  rw [List.getD_eq_getElem?_getD, List.getElem?_eq_getElem hi] at this
  exact this
theorem rowB_row {p : Int} {C : Nat} {l : List Int} (h : RowP p C l) : rowB p (C : Int) l = true := by
  unfold rowB
  rw [elemsB_row h, decide_eq_true (by rw [h.1])]
  rfl
theorem valid_of_mat {p : Int} {C : Nat} {rows : List (List Int)} (hpr : primeB p = true) (hC : C ≤ 12) (hl : rows.length ≤ 20) (hM : MatP p C rows) : validMB p (C : Int) rows = true := by
  unfold validMB
  rw [hpr, decide_eq_true (show 0 ≤ (C : Int) ∧ (C : Int) ≤ 12 by omega), decide_eq_true hl]
  simp only [Bool.true_and]
  refine List.all_eq_true.mpr fun r hr => ?_
  obtain ⟨i, hi, rfl⟩ := List.getElem_of_mem hr
  have := hM i hi
  rw [show grp rows i = rows[i] from by simp [grp, hi]] at this
  exact rowB_row this
theorem ask_of {p : Int} {C n : Nat} {rows : List (List Int)} {l : List Int} (hv : validMB p (C : Int) rows = true) (hr : RowP p n l) : askB p (C : Int) rows l (n : Int) = 0 := by
  unfold askB
  rw [hv, rowB_row hr]
  rfl
theorem tmod_eqm {p x : Int} (hp : 2 ≤ p) (hx : 0 ≤ x) : (0 ≤ Int.tmod x p ∧ Int.tmod x p ≤ p - 1) ∧ Eqm p (Int.tmod x p) x := by
  rw [Int.tmod_eq_emod_of_nonneg hx]
  exact ⟨⟨Int.emod_nonneg _ (by omega), by have := Int.emod_lt_of_pos x (b := p) (by omega); omega⟩, Eqm.mod p x⟩
theorem mul_small31 {p a b : Int} (hp : 2 ≤ p ∧ p ≤ 31) (ha : 0 ≤ a ∧ a ≤ p - 1) (hb : 0 ≤ b ∧ b ≤ p - 1) : 0 ≤ a * b ∧ a * b ≤ 900 := by
  have h1 : a * b ≤ 30 * 30 := Int.mul_le_mul (by omega) (by omega) (by omega) (by omega)
  exact ⟨Int.mul_nonneg ha.1 hb.1, by omega⟩
/-- The step of a sum of products. -/
theorem sum_step {p s a b : Int} (hp : 2 ≤ p ∧ p ≤ 31) (hs : 0 ≤ s ∧ s ≤ p - 1) (ha : 0 ≤ a ∧ a ≤ p - 1) (hb : 0 ≤ b ∧ b ≤ p - 1) : wrap64 (s + wrap64 (a * b)) = s + a * b ∧ (0 ≤ Int.tmod (s + a * b) p ∧ Int.tmod (s + a * b) p ≤ p - 1) ∧ Eqm p (Int.tmod (s + a * b) p) (s + a * b) := by
  have h := mul_small31 hp ha hb
  generalize a * b = m at h ⊢
  have h2 := tmod_eqm (x := s + m) hp.1 (by omega)
  exact ⟨by rw [wr (x := m) (by omega) (by omega), wr (by omega) (by omega)], h2⟩
theorem a2Dot_go {p : Int} {n : Nat} {r s : List Int} (hp : 2 ≤ p ∧ p ≤ 31) (hn : n ≤ 1000) (hr : RowP p n r) (hs : RowP p n s) : ∀ (d i : Nat) (x : Int), i + d = n → (0 ≤ x ∧ x ≤ p - 1) → Eqm p x (sumN i (fun j => elm r j * elm s j)) → ∃ v, Ev (fun k => laws_a2Dot.l0 k p r s x (i : Int)) v ∧ (0 ≤ v ∧ v ≤ p - 1) ∧ Eqm p v (dotZ n r (elm s)) := by
  intro d
  induction d with
  | zero =>
    intro i x hd hx he
    obtain rfl : i = n := by omega
    have c1 : ¬ (i : Int) < (r.length : Int) := by rw [hr.1]; omega
    refine ⟨x, Ev.step (f := fun _ => some x) (fun k => ?_) (Ev.now _), hx, he⟩
    simp only [laws_a2Dot.l0, if_neg c1]
  | succ d ih =>
    intro i x hd hx he
    have c1 : (i : Int) < (r.length : Int) := by rw [hr.1]; omega
    have c2 : (i : Int) < (s.length : Int) := by rw [hs.1]; omega
    have c3 : (0 : Int) ≤ (i : Int) := by omega
    have c4 : ¬ p = 0 := by omega
    obtain ⟨g1, g2, g3⟩ := sum_step hp hx (hr.2 i) (hs.2 i)
    have er : rd r (i : Int) = elm r i := rd_cast _ _
    have es : rd s (i : Int) = elm s i := rd_cast _ _
    obtain ⟨v, q1, q2, q3⟩ := ih (i + 1) (Int.tmod (x + elm r i * elm s i) p) (by omega) g2 (Eqm.trans g3 (Eqm.add he (Eqm.rfl_ p _)))
    have hw : wrap64 ((i : Int) + 1) = ((i + 1 : Nat) : Int) := by rw [wr (by omega) (by omega)]; rfl
    refine ⟨v, Ev.step (f := fun k => laws_a2Dot.l0 k p r s (Int.tmod (x + elm r i * elm s i) p) ((i + 1 : Nat) : Int)) (fun k => ?_) q1, q2, q3⟩
    have g1' : wrap64 (x + wrap64 (elm r i * elm s i)) = x + elm r i * elm s i := g1
    simp only [laws_a2Dot.l0, if_pos c1, if_pos c2, if_pos c3, if_neg c4, er, es, g1', hw]
theorem a2Dot_ok {p : Int} {n : Nat} {r s : List Int} (hp : 2 ≤ p ∧ p ≤ 31) (hn : n ≤ 1000) (hr : RowP p n r) (hs : RowP p n s) : ∃ v, Ev (fun k => laws_a2Dot.f k p r s) v ∧ (0 ≤ v ∧ v ≤ p - 1) ∧ Eqm p v (dotZ n r (elm s)) := by
  obtain ⟨v, q1, q2⟩ := a2Dot_go hp hn hr hs n 0 0 (Nat.zero_add _) ⟨Int.le_refl _, by omega⟩ (Eqm.rfl_ p _)
  exact ⟨v, q1, q2⟩
/-- The last loop: a solution has the given products. -/
theorem comb_l3 {p : Int} {C : Nat} {rows : List (List Int)} {vals x : List Int} (hp : 2 ≤ p ∧ p ≤ 31) (hC : C ≤ 1000) (hR : rows.length ≤ 1000) (hM : MatP p C rows) (hv : RowP p rows.length vals) (hx : RowP p C x) (hs : ∀ i, i < rows.length → Eqm p (dotZ C (grp rows i) (elm x)) (elm vals i)) : ∀ (d i : Nat), i + d = rows.length → Ev (fun k => laws_FnCombination.l3 k (rows.length : Int) vals x (i : Int) p (C : Int) rows) true := by
  intro d
  induction d with
  | zero =>
    intro i hd
    have c1 : ¬ (i : Int) < (rows.length : Int) := by omega
    refine Ev.step (f := fun _ => some true) (fun k => ?_) (Ev.now _)
    simp only [laws_FnCombination.l3, if_neg c1]
  | succ d ih =>
    intro i hd
    have c1 : (i : Int) < (rows.length : Int) := by omega
    have c2 : (0 : Int) ≤ (i : Int) := by omega
    have c3 : (i : Int) < (vals.length : Int) := by rw [hv.1]; omega
    have gi := rdL_grp rows i (by omega)
    obtain ⟨v, q1, q2, q3⟩ := a2Dot_ok hp hC (hM i (by omega)) hx
    have ev : v = rd vals (i : Int) := by
      rw [rd_cast]
      exact Eqm.eq_of (Eqm.trans q3 (hs i (by omega))) q2 (hv.2 i)
    have hw : wrap64 ((i : Int) + 1) = ((i + 1 : Nat) : Int) := by rw [wr (by omega) (by omega)]; rfl
    refine Ev.step (f := fun k => (laws_a2Dot.f k p (grp rows i) x).bind fun t => if t = rd vals (i : Int) then laws_FnCombination.l3 k (rows.length : Int) vals x ((i + 1 : Nat) : Int) p (C : Int) rows else some false) (fun k => ?_) (Ev.bind q1 ?_)
    · simp only [laws_FnCombination.l3, if_pos c1, if_pos c2, if_pos c3, gi, hw]
    · simp only [if_pos ev]
      exact ih (i + 1) (by omega)
/-- What is made of rows has a solution. -/
theorem comb_l2 {p : Int} {C : Nat} {rows : List (List Int)} {t : List Int} (hpr : primeB p = true) (hC : C ≤ 12) (hR : rows.length ≤ 20) (hM : MatP p C rows) (ht : RowP p C t) : ∀ (d : Nat) (vals : List Int), vals.length + d = rows.length → RowP p vals.length vals → (∀ i, i < vals.length → Eqm p (dotZ C (grp rows i) (elm t)) (elm vals i)) → Ev (fun k => laws_FnCombination.l2 k (rows.length : Int) t vals (vals.length : Int) p (C : Int) rows) true := by
  have hp := primeB_range hpr
  intro d
  induction d with
  | zero =>
    intro vals hd hv he
    have c1 : ¬ (vals.length : Int) < (rows.length : Int) := by omega
    have hvr : RowP p rows.length vals := by rw [show rows.length = vals.length by omega]; exact hv
    obtain ⟨s1, s2⟩ := solve_right (l := vals) hpr hM hvr (by omega)
    have hyes := s2 ⟨elm t, fun i hi => he i (by omega)⟩
    obtain ⟨g1, g2, g3⟩ := s1 hyes
    have hask := ask_of (n := rows.length) (valid_of_mat hpr hC hR hM) hvr
    have hsmall := validMB_small (valid_of_mat hpr hC hR hM)
    have es := impl_SolveFor_ev p (C : Int) rows vals (by omega) (fun r hr => by have := hsmall.2.1 r hr; omega) (by omega)
    have eR : SolveRes p (C : Int) rows vals = ((solveB p C rows vals).1, 0) := by
      unfold SolveRes
      rw [if_pos hask, Int.toNat_natCast, if_pos hyes]
    rw [eR] at es
    have hxr : RowP p C (solveB p C rows vals).1 := ⟨g1, g2⟩
    have e3 := comb_l3 hp (by omega) (by omega) hM hvr hxr g3 rows.length 0 (Nat.zero_add _)
    generalize (solveB p C rows vals).1 = x at es hxr e3
    have hne : ((x.length : Int) != (C : Int)) = false := by rw [hxr.1]; simp
    refine Ev.step (f := fun k => (impl_SolveFor.f k p (C : Int) rows vals).bind fun b => if b.2 = 0 then laws_FnCombination.j5 k (rows.length : Int) vals b.1 ((b.1.length : Int) != (C : Int)) p (C : Int) rows else laws_FnCombination.j5 k (rows.length : Int) vals b.1 true p (C : Int) rows) (fun k => ?_) (Ev.bind es ?_)
    · simp only [laws_FnCombination.l2, if_neg c1]
    · simp only [if_true, hne]
      refine Ev.step (f := fun k => laws_FnCombination.l3 k (rows.length : Int) vals x 0 p (C : Int) rows) (fun k => ?_) e3
      simp only [laws_FnCombination.j5]
      rfl
  | succ d ih =>
    intro vals hd hv he
    have c1 : (vals.length : Int) < (rows.length : Int) := by omega
    have c2 : (0 : Int) ≤ (vals.length : Int) := by omega
    have c3 : vals.length < 17592186044416 := by omega
    have gi := rdL_grp rows vals.length (by omega)
    obtain ⟨v, q1, q2, q3⟩ := a2Dot_ok hp (by omega) (hM vals.length (by omega)) ht
    have hl : (vals ++ [v]).length = vals.length + 1 := by simp
    have e2 := ih (vals ++ [v]) (by omega) (by rw [hl]; exact elm_snoc_row hv q2) (fun i hi => by
      rw [hl] at hi
      unfold elm
      rw [getD_append]
      split
      · exact he i (by assumption)
      · obtain rfl : i = vals.length := by omega
        rw [Nat.sub_self]
        exact Eqm.symm q3)
    rw [hl] at e2
    have hw : wrap64 ((vals.length : Int) + 1) = ((vals.length + 1 : Nat) : Int) := by rw [wr (by omega) (by omega)]; rfl
    refine Ev.step (f := fun k => (laws_a2Dot.f k p (grp rows vals.length) t).bind fun u => laws_FnCombination.l2 k (rows.length : Int) t (vals ++ [u]) ((vals.length + 1 : Nat) : Int) p (C : Int) rows) (fun k => ?_) (Ev.bind q1 e2)
    simp only [laws_FnCombination.l2, if_pos c1, if_pos c2, gi, if_pos c3, hw]
theorem comb_j3 {p : Int} {C : Nat} {rows : List (List Int)} {t : List Int} (hpr : primeB p = true) (hC : C ≤ 12) (hR : rows.length ≤ 20) (hM : MatP p C rows) (ht : RowP p C t) : Ev (fun k => laws_FnCombination.j3 k (rows.length : Int) t p (C : Int) rows) true := by
  have e := comb_l2 hpr hC hR hM ht rows.length [] (by simp) ⟨rfl, fun j => by have := primeB_range hpr; simp; omega⟩ (fun i hi => absurd hi (by simp))
  refine Ev.step (f := fun k => laws_FnCombination.l2 k (rows.length : Int) t [] 0 p (C : Int) rows) (fun k => ?_) e
  simp only [laws_FnCombination.j3]
/-- The sum for one column. -/
theorem comb_l1 {p : Int} {C : Nat} {rows : List (List Int)} {t c : List Int} (hp : 2 ≤ p ∧ p ≤ 31) (hR : rows.length ≤ 1000) (hM : MatP p C rows) (hc : RowP p rows.length c) (ht : RowP p C t) (q : Nat) (hq : q < C) (hs : Eqm p (sumN rows.length (fun i => elm c i * elm (grp rows i) q)) (elm t q)) (he : Ev (fun k => laws_FnCombination.l0 k (rows.length : Int) t c (wrap64 ((q : Int) + 1)) p (C : Int) rows) true) : ∀ (d i : Nat) (x : Int), i + d = rows.length → (0 ≤ x ∧ x ≤ p - 1) → Eqm p x (sumN i (fun i => elm c i * elm (grp rows i) q)) → Ev (fun k => laws_FnCombination.l1 k (rows.length : Int) t c (q : Int) x (i : Int) p (C : Int) rows) true := by
  intro d
  induction d with
  | zero =>
    intro i x hd hx hxe
    obtain rfl : i = rows.length := by omega
    have c1 : ¬ (rows.length : Int) < (rows.length : Int) := by omega
    have c2 : (0 : Int) ≤ (q : Int) := by omega
    have c3 : (q : Int) < (t.length : Int) := by rw [ht.1]; omega
    have ex : x = rd t (q : Int) := by
      rw [rd_cast]
      exact Eqm.eq_of (Eqm.trans hxe hs) hx (ht.2 q)
    refine Ev.step (f := fun k => laws_FnCombination.l0 k (rows.length : Int) t c (wrap64 ((q : Int) + 1)) p (C : Int) rows) (fun k => ?_) he
    simp only [laws_FnCombination.l1, if_neg c1, if_pos c2, if_pos c3, if_pos ex]
  | succ d ih =>
    intro i x hd hx hxe
    have hi := hM i (by omega)
    have gi := rdL_grp rows i (by omega)
    have c1 : (i : Int) < (rows.length : Int) := by omega
    have c2 : (0 : Int) ≤ (i : Int) := by omega
    have c3 : (i : Int) < (c.length : Int) := by rw [hc.1]; omega
    have c4 : (0 : Int) ≤ (q : Int) := by omega
    have c5 : (q : Int) < ((grp rows i).length : Int) := by rw [hi.1]; omega
    have c6 : ¬ p = 0 := by omega
    obtain ⟨g1, g2, g3⟩ := sum_step hp hx (hc.2 i) (hi.2 q)
    have ec : rd c (i : Int) = elm c i := rd_cast _ _
    have er : rd (grp rows i) (q : Int) = elm (grp rows i) q := rd_cast _ _
    have e := ih (i + 1) (Int.tmod (x + elm c i * elm (grp rows i) q) p) (by omega) g2 (Eqm.trans g3 (Eqm.add hxe (Eqm.rfl_ p _)))
    have g1' : wrap64 (x + wrap64 (elm c i * elm (grp rows i) q)) = x + elm c i * elm (grp rows i) q := g1
    have hw : wrap64 ((i : Int) + 1) = ((i + 1 : Nat) : Int) := by rw [wr (by omega) (by omega)]; rfl
    refine Ev.step (f := fun k => laws_FnCombination.l1 k (rows.length : Int) t c (q : Int) (Int.tmod (x + elm c i * elm (grp rows i) q) p) ((i + 1 : Nat) : Int) p (C : Int) rows) (fun k => ?_) e
    simp only [laws_FnCombination.l1, if_pos c1, if_pos c2, if_pos c3, if_pos c4, gi, if_pos c5, if_neg c6, ec, er, g1', hw]
theorem comb_l0 {p : Int} {C : Nat} {rows : List (List Int)} {t c : List Int} (hpr : primeB p = true) (hC : C ≤ 12) (hR : rows.length ≤ 20) (hM : MatP p C rows) (ht : RowP p C t) (hc : RowP p rows.length c) (hs : ∀ q, q < C → Eqm p (sumN rows.length (fun i => elm c i * elm (grp rows i) q)) (elm t q)) : ∀ (d q : Nat), q + d = C → Ev (fun k => laws_FnCombination.l0 k (rows.length : Int) t c (q : Int) p (C : Int) rows) true := by
  have hp := primeB_range hpr
  intro d
  induction d with
  | zero =>
    intro q hd
    have c1 : ¬ (q : Int) < (C : Int) := by omega
    refine Ev.step (f := fun k => laws_FnCombination.j3 k (rows.length : Int) t p (C : Int) rows) (fun k => ?_) (comb_j3 hpr hC hR hM ht)
    simp only [laws_FnCombination.l0, if_neg c1]
  | succ d ih =>
    intro q hd
    have c1 : (q : Int) < (C : Int) := by omega
    have e0 := ih (q + 1) (by omega)
    have hw : wrap64 ((q : Int) + 1) = ((q + 1 : Nat) : Int) := by rw [wr (by omega) (by omega)]; rfl
    have e1 := comb_l1 hp (by clear hw; omega) hM hc ht q (by clear hw; omega) (hs q (by clear hw; omega)) (by rw [hw]; exact e0) rows.length 0 0 (Nat.zero_add _) ⟨Int.le_refl _, by clear hw; omega⟩ (Eqm.rfl_ p _)
    refine Ev.step (f := fun k => laws_FnCombination.l1 k (rows.length : Int) t c (q : Int) 0 0 p (C : Int) rows) (fun k => ?_) e1
    simp only [laws_FnCombination.l0, if_pos c1]

end Go.Proofs.Ytjpbemomocccaaa.P

/- For any two byte lists the law of spanned lists, combinations and solutions answers true. -/
namespace Go.Proofs.Ytjpbemomocccaaa.Pure
open Go.RowKit Go.Proofs.Ytjpbemomocccaaa.P Go.Proofs.YtjpbemomocccaaaW.PrintWords Go.Proofs.YtjpbemomocccaaaW.PrintLast Go.Proofs.YtjpbemomocccaaaW.PrintMore
set_option linter.unusedVariables false
set_option linter.unusedSimpArgs false

theorem FnCombination : laws_FnCombination.Pure := by
  intro l0 l1 _ _ hw0 _ _ hw1
  have b0 : BytesP l0 := fun x hx => wf_u8 (hw0 x hx)
  have b1 : BytesP l1 := fun x hx => wf_u8 (hw1 x hx)
  obtain ⟨b, hb⟩ : ∃ b, laws_a2Long.f l0 l1 = some b := by unfold laws_a2Long.f; split <;> exact ⟨_, rfl⟩
  refine Ev.rounds (g := fun k => laws_FnCombination.f k l0 l1) ?_
  unfold laws_FnCombination.f
  rw [hb]
  simp only [Option.bind_some]
  cases b with
  | true => simp only [if_true]; exact Ev.now _
  | false =>
    simp only [Bool.false_eq_true, if_false]
    obtain ⟨p, C, rows, em, hpr, hC, hR, hM⟩ := A2Matrix_ok b0
    have hp := primeB_range hpr
    obtain ⟨t, et, ht⟩ := A2Elements_ok b1 p C hp (by omega)
    refine Ev.bind em (Ev.bind et ?_)
    have hval := valid_of_mat hpr (by omega) (by omega) hM
    have hsmall := validMB_small hval
    have hask := ask_of hval ht
    have hr : ∀ r ∈ rows, r.length ≤ 4611686018427387904 := fun r hr => by have := hsmall.2.1 r hr; omega
    have es := impl_IsSpanned_ev p (C : Int) rows t (by omega) hr (by rw [ht.1]; omega)
    have ec := impl_Combination_ev p (C : Int) rows t (by omega) hr (by rw [ht.1]; omega)
    have hT := turn_mat hp.1 hM
    obtain ⟨s1, s2⟩ := solve_right (C := rows.length) (rows := turnB C rows) (l := t) hpr hT (by rw [turnB_length]; exact ht) (by rw [turnB_length]; omega)
    have eS : SpanRes p (C : Int) rows t = ((solveB p rows.length (turnB C rows) t).2, 0) := by
      unfold SpanRes
      rw [if_pos hask, Int.toNat_natCast]
    by_cases hy : (solveB p rows.length (turnB C rows) t).2 = true
    · obtain ⟨g1, g2, g3⟩ := s1 hy
      have eC : CombRes p (C : Int) rows t = ((solveB p rows.length (turnB C rows) t).1, 0) := by
        unfold CombRes
        rw [if_pos hask, Int.toNat_natCast, if_pos hy]
      rw [eS, hy] at es
      rw [eC] at ec
      have hcr : RowP p rows.length (solveB p rows.length (turnB C rows) t).1 := ⟨g1, g2⟩
      have hsum : ∀ q, q < C → Eqm p (sumN rows.length (fun i => elm (solveB p rows.length (turnB C rows) t).1 i * elm (grp rows i) q)) (elm t q) := fun q hq => by
        have h := g3 q (by rw [turnB_length]; exact hq)
        refine Eqm.trans (Eqm.of_eq (sumN_congr fun i hi => ?_)) h
        rw [turnB_grp hq, colB_elm hi, Int.mul_comm]
      have e0 := comb_l0 hpr (by omega) (by omega) hM ht hcr hsum C 0 (Nat.zero_add _)
      generalize (solveB p rows.length (turnB C rows) t).1 = c at ec hcr e0
      refine Ev.bind es (Ev.bind ec ?_)
      have hx : (true != ((0 : Int) == 0)) = false := by decide
      simp only [if_true, hx, Bool.false_eq_true, if_false]
      have hlen : (c.length : Int) = (rows.length : Int) := by rw [hcr.1]
      refine Ev.step (f := fun k => laws_FnCombination.l0 k (rows.length : Int) t c 0 p (C : Int) rows) (fun k => ?_) e0
      simp only [laws_FnCombination.j0, Bool.false_eq_true, if_false, if_true, if_pos hlen]
    · replace hy := Bool.eq_false_iff.mpr hy
      have eC : CombRes p (C : Int) rows t = ([], 6) := by
        unfold CombRes
        rw [if_pos hask, Int.toNat_natCast, if_neg (by rw [hy]; decide)]
      rw [eS, hy] at es
      rw [eC] at ec
      refine Ev.bind es (Ev.bind ec ?_)
      have hx : (false != ((6 : Int) == 0)) = false := by decide
      have hx2 : ((6 : Int) != 6) = false := by decide
      have hx3 : ¬ (6 : Int) = 0 := by decide
      simp only [if_true, hx, Bool.false_eq_true, if_false, if_neg hx3, hx2]
      refine Ev.step (f := fun k => laws_FnCombination.j3 k (rows.length : Int) t p (C : Int) rows) (fun k => ?_) (comb_j3 hpr (by omega) (by omega) hM ht)
      simp only [laws_FnCombination.j0, Bool.false_eq_true, if_false]

end Go.Proofs.Ytjpbemomocccaaa.Pure

-- PRINTED by print.py: the row of the law laws_FnCombination, out of its Pure (the session's) and the printed walk. Not trusted: Lean checks it.
namespace Go.Proofs.Ytjpbemomocccaaa.fnCombination
open Go.ChangeShapes Go.WideShapes Go.ChangeAt Go.RowKit
open Go.ChangeMaps (open_string shut_string)
set_option linter.unusedVariables false
theorem own : ownKnob Try.prog.godebug = none := by kernel_rfl
theorem laidOut : laidOutB Try.prog = true := by kernel_rfl
def IsRow (k : IntKind) (w : World) (a : Option Addr) (len cap : Nat) (zs : List Int) : Prop :=
  (a = none ∧ len = 0 ∧ cap = 0 ∧ zs = []) ∨
  ∃ x, a = some x ∧ len ≤ cap ∧ cap ≤ maxLen ∧ zs.length = cap ∧ (∀ i, i < zs.length → w.cell? (x.add i) = some (.int k (zs.getD i 0))) ∧ ∀ n ∈ zs, (Lit.int k n).wf = true
set_option maxRecDepth 100000 in
theorem lifted (os : Os) (started : os.Started) (H : Type) (enc : TypeId × Value → H) :
    ReturnsInHanded {} Try.checked os 10 .any (Rows.fnCombinationSpec.pre6 enc Try.prog Try.f10 Rows.fnCombinationRow.domain false) (Rows.fnCombinationSpec.post enc Try.prog Try.f10 false true false false) := by
  refine returnsInHanded_of_change_sized (C := Try.checked) own started (by kernel_rfl) Try.func10
    (ChangeSpec.witness6 (enc := enc) (C := Try.checked) false ⟨#[], #[.slice none 0 0, .slice none 0 0], []⟩ 8 (by kernel_rfl) (by kernel_rfl) (by kernel_rfl) (by kernel_rfl)) ?_
  intro W base args ds gs before hval0 hW hcnd hsz0 _
  have hsz : (DataW.weightsEach Try.prog (Try.f10.params.toList ++ Rows.fnCombinationSpec.plain.varTypes Try.prog) (ds ++ gs)).all (· ≤ reachBytes) = true := hsz0
  have hval : ∀ (j : Nat) t v, Try.f10.params[j]? = some t → args[j]? = some v → Value.okWide Try.prog W .any base t v := hval0
  have hW' := hW
  obtain ⟨p, q, hA0, hV, rfl, hfz, hnd⟩ := hW
  have hA : DataW.TrodAll enc Try.prog W 0 (fun _ => true) true Try.f10.params.toList args.toList ds p := hA0
  rw [Try.params10] at hA hval hsz
  obtain ⟨v0, vs0, d0, ds0, p0, q0, hargs, rfl, rfl, h0, r0⟩ := trodAll_cons hA
  obtain ⟨v1, vs1, d1, ds1, p1, q1, rfl, rfl, rfl, h1, r1⟩ := trodAll_cons r0
  obtain ⟨rfl, rfl, rfl⟩ := trodAll_nil r1
  obtain rfl : args = #[v0, v1] := by cases args; simp_all
  obtain ⟨rfl, rfl⟩ := trodVars_none hV
  obtain ⟨a0, len0, cap0, rfl⟩ := okWide_slice Try.underlying44 (hval 0 44 v0 rfl rfl)
  have k0 := h0
  have lt0 : ∀ x ∈ p0, x.block < W.heap.size := by obtain ⟨m, hm⟩ := k0; exact DataW.trod_lt m _ _ _ hm
  obtain ⟨z0, w0⟩ : ∃ zs, IsRow .u8 W a0 len0 cap0 zs := by
    obtain ⟨fuel, hf⟩ := h0
    rcases open_ints Try.underlying44 Try.underlying5 (by kernel_rfl) hf with ⟨hcs, _⟩ | ⟨x, l, c, zs, hcs, _, hl, hm, hz, _, hcell, hwz⟩
    · simp [Value.cells] at hcs
      obtain ⟨rfl, rfl, rfl⟩ := hcs
      exact ⟨[], .inl ⟨rfl, rfl, rfl, rfl⟩⟩
    · simp [Value.cells] at hcs
      obtain ⟨rfl, rfl, rfl⟩ := hcs
      exact ⟨zs, .inr ⟨_, rfl, hl, hm, by simpa using hz, hcell, hwz⟩⟩
  have y0 : len0 * 1 ≤ 140737488351232 := Go.Proofs.YtjpbemomocccaaaW.PrintWords.sized_ints hsz (j := 0) (t := 44) rfl rfl Try.underlying44 Try.underlying5 (by kernel_rfl) (by kernel_rfl) h0
  obtain ⟨a1, len1, cap1, rfl⟩ := okWide_slice Try.underlying44 (hval 1 44 v1 rfl rfl)
  have k1 := h1
  have lt1 : ∀ x ∈ p1, x.block < W.heap.size := by obtain ⟨m, hm⟩ := k1; exact DataW.trod_lt m _ _ _ hm
  obtain ⟨z1, w1⟩ : ∃ zs, IsRow .u8 W a1 len1 cap1 zs := by
    obtain ⟨fuel, hf⟩ := h1
    rcases open_ints Try.underlying44 Try.underlying5 (by kernel_rfl) hf with ⟨hcs, _⟩ | ⟨x, l, c, zs, hcs, _, hl, hm, hz, _, hcell, hwz⟩
    · simp [Value.cells] at hcs
      obtain ⟨rfl, rfl, rfl⟩ := hcs
      exact ⟨[], .inl ⟨rfl, rfl, rfl, rfl⟩⟩
    · simp [Value.cells] at hcs
      obtain ⟨rfl, rfl, rfl⟩ := hcs
      exact ⟨zs, .inr ⟨_, rfl, hl, hm, by simpa using hz, hcell, hwz⟩⟩
  have y1 : len1 * 1 ≤ 140737488351232 := Go.Proofs.YtjpbemomocccaaaW.PrintWords.sized_ints hsz (j := 1) (t := 44) rfl rfl Try.underlying44 Try.underlying5 (by kernel_rfl) (by kernel_rfl) h1
  clear hA0 hval0 hsz0 hsz
  refine (P.laws_FnCombination.walk Pure.FnCombination a0 len0 cap0 z0 a1 len1 cap1 z1 W w0 y0 w1 y1).mono fun e W' ⟨he, bel⟩ => ?_
  subst he
  exact ⟨_, rfl, _, _, _, [], _, [], hW', trodAll_mk1 (shut_bool Try.underlying4 _), (trodAll_cons_mk (Below.trod laidOut (by kernel_rfl) (of_decide_eq_true (by kernel_rfl)) k0 bel lt0) (trodAll_cons_mk (Below.trod laidOut (by kernel_rfl) (of_decide_eq_true (by kernel_rfl)) k1 bel lt1) trodAll_mk0)), rfl, bel.frame _, fun h => by cases h⟩
theorem over : Rows.fnCombinationRow.holds Try.pinned (OpenSpec.ofChange Rows.fnCombinationSpec) :=
  OpenClaim.holds_of_wide 10 Try.f10 rfl rfl rfl rfl rfl rfl rfl ⟨rfl, rfl, rfl, rfl, rfl⟩ rfl rfl rfl rfl rfl (by kernel_rfl) Try.func10 (by kernel_rfl)
    (of_decide_eq_true (by kernel_rfl)) (by unfold Func.isWrapper; first | (rw [if_pos (by decide +kernel)]; kernel_rfl) | (rw [if_neg (by decide +kernel)]; exact ⟨rfl, rfl⟩))
    (fun os started H enc _ => lifted os started H enc)
theorem proved : Rows.FnCombinationSaid := over
#print axioms proved
end Go.Proofs.Ytjpbemomocccaaa.fnCombination
namespace Go.Proofs.Ytjpbemomocccaaa
/-- The row, under a short name, for the claim. -/
theorem fnCombination_holds : Rows.FnCombinationSaid := fnCombination.proved
end Go.Proofs.Ytjpbemomocccaaa
