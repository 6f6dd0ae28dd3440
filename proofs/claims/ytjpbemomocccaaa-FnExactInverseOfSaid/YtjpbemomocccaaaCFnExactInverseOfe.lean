/- For every matrix the program's InverseOf and the reference's answer alike, the argument stays, and the result is memory of its own. This text: the theorem of the row, and part 5 of what it rests on. -/
import Derived.Test.YtjpbemomocccaaaCFnExactInverseOfd
import Derived.Below
import Derived.Carry
import Derived.ChangeOld
import Derived.OpenShut
import Derived.ProofKit
import Derived.ShutString
import Derived.SizedLaws
import Derived.Test.YtjpbemomocccaaaRows
import Derived.WalkKit
namespace Go.Proofs.Ytjpbemomocccaaa.P
open Go.RowKit Go.Proofs.YtjpbemomocccaaaW.PrintWords Go.Proofs.YtjpbemomocccaaaW.PrintLast Go.Proofs.YtjpbemomocccaaaW.PrintMore
attribute [local go_sem] max2_int min2_int max_two min_two max_three min_three max_four min_four
set_option linter.unusedVariables false
set_option linter.unusedSimpArgs false

/-- A row of a matrix: elements modulo p, as many as there are columns. -/
def rowB (p cols : Int) (r : List Int) : Bool := decide ((r.length : Int) = cols) && elemsB p r
def validMB (p cols : Int) (rows : List (List Int)) : Bool := primeB p && (decide (0 ≤ cols ∧ cols ≤ 12) && (decide (rows.length ≤ 20) && rows.all (rowB p cols)))
theorem spec_l03Row_ev (p cols : Int) (r : List Int) (hp : -1000 ≤ p ∧ p ≤ 1000) (hl : r.length ≤ 4611686018427387904) : Ev (fun k => spec_l03Row.f k p cols r) (rowB p cols r) := by
  unfold spec_l03Row.f
  have h := scan_ev (l := fun k i => spec_l03Row.l0 k p cols r i) (n := r.length) (q := fun i => decide (0 ≤ rd r i ∧ rd r i ≤ p - 1)) (fin := decide ((r.length : Int) = cols)) (stop := false)
    (fun i hi hq t ht => by
      refine Ev.step (fun k => ?_) ht
      simp only [spec_l03Row.l0]
      rw [if_pos (by omega), if_pos (by omega), wr (x := p - 1) (by omega) (by omega), spec_l00In_eq, wr (x := (i : Int) + 1) (by omega) (by omega)]
      simp only [Option.bind_some]
      rw [if_pos hq]
      rfl)
    (fun i hi hq => by
      refine Ev.step (f := fun _ => some false) (fun k => ?_) (Ev.now _)
      simp only [spec_l03Row.l0]
      rw [if_pos (by omega), if_pos (by omega), wr (x := p - 1) (by omega) (by omega), spec_l00In_eq]
      simp only [Option.bind_some]
      rw [if_neg (by rw [hq]; decide)])
    (by
      refine Ev.step (f := fun _ => some ((r.length : Int) == cols)) (fun k => ?_) ?_
      · simp only [spec_l03Row.l0]
        rw [if_neg (by omega)]
      · rw [show ((r.length : Int) == cols) = decide ((r.length : Int) = cols) from by by_cases e : (r.length : Int) = cols <;> simp [e]]
        exact Ev.now _)
  rw [range_all r (fun a => decide (0 ≤ a ∧ a ≤ p - 1)) _ (fun i hi => by simp only [rd_nat r i hi])] at h
  rw [show rowB p cols r = (if (r.all fun a => decide (0 ≤ a ∧ a ≤ p - 1)) then decide ((r.length : Int) = cols) else false) from by
    unfold rowB elemsB
    cases (r.all fun a => decide (0 ≤ a ∧ a ≤ p - 1)) <;> simp]
  exact h
theorem spec_l03Ok_ev (p cols : Int) (rows : List (List Int)) (hl : rows.length ≤ 4611686018427387904) (hr : ∀ r ∈ rows, r.length ≤ 4611686018427387904) : Ev (fun k => spec_l03Ok.f k p cols rows) (validMB p cols rows) := by
  unfold spec_l03Ok.f validMB
  refine Ev.bind (spec_IsPrime_ev p) ?_
  have stop : Ev (fun k => spec_l03Ok.j0 k true p cols rows) false :=
    Ev.step (f := fun _ => some false) (fun k => by simp only [spec_l03Ok.j0, if_true]) (Ev.now _)
  cases hp : primeB p with
  | false => exact stop
  | true =>
    have hpr := primeB_range hp
    simp only [if_true, spec_l00In_eq, Option.bind_some, Bool.true_and]
    cases hc : decide (0 ≤ cols ∧ cols ≤ 12) with
    | false => exact stop
    | true =>
      simp only [if_true, Bool.true_and]
      by_cases h20 : (rows.length : Int) > 20
      · rw [decide_eq_true h20, decide_eq_false (show ¬ rows.length ≤ 20 by omega), Bool.false_and]
        exact stop
      · rw [decide_eq_false h20, decide_eq_true (show rows.length ≤ 20 by omega), Bool.true_and]
        refine Ev.step (f := fun k => spec_l03Ok.l0 k 0 p cols rows) (fun k => by simp only [spec_l03Ok.j0]; rw [if_neg (by decide)]) ?_
        have h := scan_ev (l := fun k i => spec_l03Ok.l0 k i p cols rows) (n := rows.length) (q := fun i => rowB p cols (rd_L1 rows i)) (fin := true) (stop := false)
          (fun i hi hq t ht => by
            refine Ev.step (f := fun k => (spec_l03Row.f k p cols (rd_L1 rows i)).bind fun t => if t = true then spec_l03Ok.l0 k ((i + 1 : Nat) : Int) p cols rows else some false) (fun k => ?_) (Ev.bind (spec_l03Row_ev p cols _ (by omega) (by rw [rdL_nat rows i hi]; exact hr _ (List.getElem_mem hi))) ?_)
            · simp only [spec_l03Ok.l0]
              rw [if_pos (by omega), if_pos (by omega), wr (by omega) (by omega)]
              rfl
            · simp only [hq, if_true]
              exact ht)
          (fun i hi hq => by
            refine Ev.step (f := fun k => (spec_l03Row.f k p cols (rd_L1 rows i)).bind fun t => if t = true then spec_l03Ok.l0 k ((i + 1 : Nat) : Int) p cols rows else some false) (fun k => ?_) (Ev.bind (spec_l03Row_ev p cols _ (by omega) (by rw [rdL_nat rows i hi]; exact hr _ (List.getElem_mem hi))) ?_)
            · simp only [spec_l03Ok.l0]
              rw [if_pos (by omega), if_pos (by omega), wr (by omega) (by omega)]
              rfl
            · simp only [hq]
              exact Ev.now _)
          (Ev.step (f := fun _ => some true) (fun k => by simp only [spec_l03Ok.l0]; rw [if_neg (by omega)]) (Ev.now _))
        rw [range_all rows (rowB p cols) _ (fun i hi => by simp only [rdL_nat rows i hi])] at h
        rw [show rows.all (rowB p cols) = (if rows.all (rowB p cols) then true else false) from by cases rows.all (rowB p cols) <;> rfl]
        exact h
theorem idxR_ev (p : Nat → List Int → Option Bool) (q : List Int → Bool) (xs : List (List Int)) (hlen : xs.length ≤ 4611686018427387904) (hp : ∀ x ∈ xs, Ev (fun k => p k x) (q x)) (hm : ∀ x k, LeO (p k x) (p (k + 1) x)) :
    ∀ d i : Nat, i + d = xs.length → ∃ r : Int, Ev (fun k => idxR.l0 k (p k) xs (i : Int)) r ∧ decide (0 ≤ r) = (xs.drop i).any q := by
  have up : ∀ {r : Int} {i : Int}, Ev (fun k => idxR.l0 k (p k) xs i) r → Ev (fun k => idxR.l0 k (p (k + 1)) xs i) r := by
    rintro r i ⟨K, h⟩
    exact ⟨K, fun k hk => idxR.mono_p _ _ _ _ _ (fun x => hm x k) r (h k hk)⟩
  have one : ∀ x ∈ xs, Ev (fun k => p (k + 1) x) (q x) := fun x hx => by
    obtain ⟨K, h⟩ := hp x hx
    exact ⟨K, fun k hk => h (k + 1) (by omega)⟩
  intro d
  induction d with
  | zero =>
    intro i hi
    refine ⟨-1, Ev.step (f := fun _ => some (-1)) (fun k => ?_) (Ev.now _), ?_⟩
    · simp only [idxR.l0]
      rw [if_neg (by omega)]
    · rw [List.drop_eq_nil_of_le (by omega)]; rfl
  | succ d ih =>
    intro i hi
    have hlt : i < xs.length := by omega
    obtain ⟨r, hr, hd⟩ := ih (i + 1) (by omega)
    have hx := one _ (List.getElem_mem hlt)
    rw [List.drop_eq_getElem_cons hlt, List.any_cons]
    have step : ∀ {r : Int}, Ev (fun k => (p (k + 1) xs[i]).bind fun t => if t = true then some (i : Int) else idxR.l0 k (p (k + 1)) xs ((i + 1 : Nat) : Int)) r → Ev (fun k => idxR.l0 k (p k) xs (i : Int)) r := fun h => by
      refine Ev.step (g := fun k => idxR.l0 k (p k) xs (i : Int)) (fun k => ?_) h
      simp only [idxR.l0]
      rw [if_pos (by omega), if_pos (by omega), rdL_nat xs i hlt, wr (by omega) (by omega)]
      rfl
    cases hq : q xs[i] with
    | true =>
      refine ⟨i, step (Ev.bind hx ?_), ?_⟩
      · simp only [hq, if_true]; exact Ev.now _
      · rw [Bool.true_or]; exact decide_eq_true (by omega)
    | false =>
      refine ⟨r, step (Ev.bind hx ?_), ?_⟩
      · simp only [hq]; exact up hr
      · rw [Bool.false_or]; exact hd
theorem hasR_ev (p : Nat → List Int → Option Bool) (q : List Int → Bool) (xs : List (List Int)) (hlen : xs.length ≤ 4611686018427387904) (hp : ∀ x ∈ xs, Ev (fun k => p k x) (q x)) (hm : ∀ x k, LeO (p k x) (p (k + 1) x)) : Ev (fun k => hasR.f k (p k) xs) (xs.any q) := by
  obtain ⟨r, hr, hd⟩ := idxR_ev p q xs hlen hp hm xs.length 0 (by omega)
  rw [List.drop_zero] at hd
  rw [← hd]
  exact Ev.bind hr (Ev.now _)
theorem not_any_all {α : Type} (l : List α) (q : α → Bool) : (!(l.any fun a => !q a)) = l.all q := by
  induction l with
  | nil => rfl
  | cons a l ih => rw [List.any_cons, List.all_cons, ← ih, Bool.not_or, Bool.not_not]
theorem impl_ValidMatrix_ev (p cols : Int) (rows : List (List Int)) (hl : rows.length ≤ 4611686018427387904) (hr : ∀ r ∈ rows, r.length ≤ 4611686018427387904) : Ev (fun k => impl_ValidMatrix.f k p cols rows) (validMB p cols rows) := by
  unfold impl_ValidMatrix.f validMB
  refine Ev.bind (impl_IsPrime_ev p) ?_
  cases hp : primeB p with
  | false => exact Ev.now _
  | true =>
    simp only [if_true, impl_within_eq, Option.bind_some, Bool.true_and]
    cases hc : decide (0 ≤ cols ∧ cols ≤ 12) with
    | false => exact Ev.now _
    | true =>
      simp only [if_true, Bool.true_and]
      by_cases h20 : (rows.length : Int) ≤ 20
      · rw [decide_eq_true (show rows.length ≤ 20 by omega), Bool.true_and, ← not_any_all]
        simp only [if_pos h20]
        refine Ev.bind (hasR_ev (fun k => ValidMatrix_p k p cols) (fun r => !rowB p cols r) rows hl (fun r hrm => ?_) (fun x k => ValidMatrix_p.mono _ _ _ _)) (Ev.now _)
        unfold ValidMatrix_p rowB
        by_cases e : (r.length : Int) = cols
        · simp only [if_pos e, decide_eq_true e, Bool.true_and]
          have := impl_areElements_ev p r (hr r hrm)
          rw [hp, Bool.true_and] at this
          exact Ev.bind this (Ev.now _)
        · simp only [if_neg e, decide_eq_false e, Bool.false_and]
          exact Ev.now _
      · rw [decide_eq_false (show ¬ rows.length ≤ 20 by omega), Bool.false_and]
        simp only [if_neg h20]
        exact Ev.now _

end Go.Proofs.Ytjpbemomocccaaa.P

namespace Go.Proofs.Ytjpbemomocccaaa.P
open Go.RowKit Go.Proofs.YtjpbemomocccaaaW.PrintWords Go.Proofs.YtjpbemomocccaaaW.PrintLast Go.Proofs.YtjpbemomocccaaaW.PrintMore
attribute [local go_sem] max2_int min2_int max_two min_two max_three min_three max_four min_four
set_option linter.unusedVariables false
set_option linter.unusedSimpArgs false

/-- A loop that puts one value after another behind a list. -/
theorem build_ev {α ρ : Type} {l : Nat → Int → List α → Option ρ} (n : Nat) (f : Nat → α) {fin : ρ}
    (hgo : ∀ (i : Nat) (acc : List α), i < n → acc.length = i → ∀ r, Ev (fun k => l k ((i + 1 : Nat) : Int) (acc ++ [f i])) r → Ev (fun k => l k (i : Int) acc) r)
    (hend : Ev (fun k => l k (n : Int) ((List.range n).map f)) fin) : Ev (fun k => l k 0 []) fin := by
  have key : ∀ d i : Nat, i + d = n → Ev (fun k => l k (i : Int) ((List.range i).map f)) fin := by
    intro d
    induction d with
    | zero =>
      intro i hi
      obtain rfl : i = n := by omega
      exact hend
    | succ d ih =>
      intro i hi
      refine hgo i _ (by omega) (by simp) _ ?_
      have := ih (i + 1) (by omega)
      rwa [List.range_succ, List.map_append] at this
  exact key n 0 (by omega)
theorem elemsB_get {p : Int} {l : List Int} (h : elemsB p l = true) (i : Nat) (hi : i < l.length) : 0 ≤ l[i] ∧ l[i] ≤ p - 1 := by
  unfold elemsB at h
  exact of_decide_eq_true (List.all_eq_true.mp h _ (List.getElem_mem hi))
end Go.Proofs.Ytjpbemomocccaaa.P

namespace Go.Proofs.Ytjpbemomocccaaa.P
open Go.RowKit Go.Proofs.YtjpbemomocccaaaW.PrintWords Go.Proofs.YtjpbemomocccaaaW.PrintLast Go.Proofs.YtjpbemomocccaaaW.PrintMore
attribute [local go_sem] max2_int min2_int max_two min_two max_three min_three max_four min_four
set_option linter.unusedVariables false
set_option linter.unusedSimpArgs false

theorem rd_cast (xs : List Int) (i : Nat) : rd xs (i : Int) = xs.getD i 0 := by simp [rd]
theorem rdL_cast (gs : List (List Int)) (i : Nat) : rd_L1 gs (i : Int) = grp gs i := by simp [rd_L1, grp]
theorem getD_set {α : Type} (l : List α) (i j : Nat) (v d : α) (hi : i < l.length) : (l.set i v).getD j d = if j = i then v else l.getD j d := by
  rw [List.getD_eq_getElem?_getD, List.getD_eq_getElem?_getD, List.getElem?_set]
  by_cases h : j = i
  · subst h; rw [if_pos rfl, if_pos rfl, if_pos hi]; rfl
  · rw [if_neg (Ne.symm h), if_neg h]
theorem getD_map {α : Type} (n : Nat) (f : Nat → α) (j : Nat) (d : α) (hj : j < n) : ((List.range n).map f).getD j d = f j := by
  rw [List.getD_eq_getElem?_getD, List.getElem?_map, List.getElem?_range hj]; rfl
theorem list_of_getD {α : Type} (l : List α) (d : α) : (List.range l.length).map (fun j => l.getD j d) = l := by
  refine List.ext_getElem (by simp) fun i h1 h2 => ?_
  have : i < l.length := h2
  simp [List.getD_eq_getElem?_getD, this]
theorem list_eq_getD {α : Type} (d : α) {a b : List α} (hl : a.length = b.length) (h : ∀ i, i < a.length → a.getD i d = b.getD i d) : a = b := by
  refine List.ext_getElem hl fun i h1 h2 => ?_
  have := h i h1
  rwa [List.getD_eq_getElem?_getD, List.getD_eq_getElem?_getD, List.getElem?_eq_getElem h1, List.getElem?_eq_getElem h2] at this
/-- A loop that sets one place of a list after another. -/
theorem setloop_ev {α : Type} (d : α) {l : Nat → Int → List α → Option (List α)} (ys : List α) (f : Nat → α → α)
    (hgo : ∀ (i : Nat) (xs : List α), i < ys.length → xs.length = ys.length → (∀ j, j < ys.length → xs.getD j d = if j < i then f j (ys.getD j d) else ys.getD j d) → ∀ r, Ev (fun k => l k ((i + 1 : Nat) : Int) (xs.set i (f i (ys.getD i d)))) r → Ev (fun k => l k (i : Int) xs) r)
    (hend : ∀ xs, xs.length = ys.length → Ev (fun k => l k (ys.length : Int) xs) xs) : Ev (fun k => l k 0 ys) ((List.range ys.length).map fun j => f j (ys.getD j d)) := by
  have key : ∀ m i : Nat, i + m = ys.length → ∀ xs : List α, xs.length = ys.length → (∀ j, j < ys.length → xs.getD j d = if j < i then f j (ys.getD j d) else ys.getD j d) → Ev (fun k => l k (i : Int) xs) ((List.range ys.length).map fun j => f j (ys.getD j d)) := by
    intro m
    induction m with
    | zero =>
      intro i hi xs hx hj
      obtain rfl : i = ys.length := by omega
      have e : xs = (List.range ys.length).map fun j => f j (ys.getD j d) := by
        refine list_eq_getD d (by simp [hx]) fun j hjx => ?_
        rw [getD_map _ _ _ _ (by omega), hj j (by omega), if_pos (by omega)]
      have := hend xs hx
      rw [← e]
      exact this
    | succ m ih =>
      intro i hi xs hx hj
      refine hgo i xs (by omega) hx hj _ (ih (i + 1) (by omega) _ (by rw [List.length_set]; exact hx) fun j hjl => ?_)
      rw [getD_set _ _ _ _ _ (by omega)]
      by_cases h1 : j = i
      · subst h1; rw [if_pos rfl, if_pos (by omega)]
      · rw [if_neg h1, hj j hjl]
        by_cases h2 : j < i
        · rw [if_pos h2, if_pos (by omega)]
        · rw [if_neg h2, if_neg (by omega)]
  exact key ys.length 0 (by omega) ys rfl fun j _ => by rw [if_neg (by omega)]
/-- A list of C elements modulo p. -/
def RowP (p : Int) (C : Nat) (r : List Int) : Prop := r.length = C ∧ ∀ j, 0 ≤ r.getD j 0 ∧ r.getD j 0 ≤ p - 1
def MatP (p : Int) (C : Nat) (rows : List (List Int)) : Prop := ∀ i, i < rows.length → RowP p C (grp rows i)
theorem mod_range {p : Int} (hp : 2 ≤ p) (x : Int) : 0 ≤ x % p ∧ x % p ≤ p - 1 := ⟨Int.emod_nonneg _ (by omega), by have := Int.emod_lt_of_pos x (b := p) (by omega); omega⟩
theorem RowP_map {p : Int} (hp : 2 ≤ p) (C : Nat) (f : Nat → Int) (hf : ∀ j, j < C → 0 ≤ f j ∧ f j ≤ p - 1) : RowP p C ((List.range C).map f) := by
  refine ⟨by simp, fun j => ?_⟩
  by_cases h : j < C
  · rw [getD_map _ _ _ _ h]; exact hf j h
  · rw [List.getD_eq_getElem?_getD, List.getElem?_eq_none (by simp; omega)]
    show 0 ≤ (0 : Int) ∧ (0 : Int) ≤ p - 1
    omega
def timesB (p by_ : Int) (r : List Int) : List Int := (List.range r.length).map fun j => r.getD j 0 * by_ % p
def addB (p : Int) (u row : List Int) (t : Int) : List Int := (List.range u.length).map fun j => (u.getD j 0 + row.getD j 0 * t) % p
theorem timesB_row {p by_ : Int} {C : Nat} {r : List Int} (hp : 2 ≤ p) (h : RowP p C r) : RowP p C (timesB p by_ r) := by
  unfold timesB; rw [h.1]; exact RowP_map hp C _ fun j _ => mod_range hp _
theorem addB_row {p t : Int} {C : Nat} {r s : List Int} (hp : 2 ≤ p) (h : RowP p C r) : RowP p C (addB p r s t) := by
  unfold addB; rw [h.1]; exact RowP_map hp C _ fun j _ => mod_range hp _
theorem mul_le31 {p a b : Int} (hp : 2 ≤ p ∧ p ≤ 31) (ha : 0 ≤ a ∧ a ≤ p - 1) (hb : 0 ≤ b ∧ b ≤ p) : 0 ≤ a * b ∧ a * b ≤ 1000 := by
  refine ⟨Int.mul_nonneg ha.1 hb.1, ?_⟩
  have h1 : a * b ≤ 30 * b := Int.mul_le_mul_of_nonneg_right (by omega) hb.1
  omega
theorem impl_scaled_ev {p by_ : Int} {C : Nat} {r : List Int} (hp : 2 ≤ p ∧ p ≤ 31) (hC : C ≤ 1000) (h : RowP p C r) (hb : 0 ≤ by_ ∧ by_ ≤ p) : Ev (fun k => impl_scaled.f k p r by_) (timesB p by_ r) := by
  unfold impl_scaled.f timesB
  refine setloop_ev (0 : Int) (l := fun k i xs => impl_scaled.l0 k p xs by_ (r.length : Int) i) r (fun _ x => x * by_ % p) (fun i xs hi hx hj t ht => ?_) (fun xs hx => ?_)
  · have hl := h.1
    refine Ev.step (fun k => ?_) ht
    have hm := mul_le31 hp (h.2 i) hb
    have e := hj i hi
    rw [if_neg (by omega)] at e
    simp only [impl_scaled.l0]
    rw [if_pos (by omega), if_pos (by omega), if_pos (by omega), if_neg (by omega), rd_cast, e, wr (by omega) (by omega), Int.tmod_eq_emod_of_nonneg hm.1, wr (by omega) (by omega)]
    rfl
  · refine Ev.step (f := fun _ => some xs) (fun k => ?_) (Ev.now _)
    simp only [impl_scaled.l0]
    rw [if_neg (by omega)]
theorem spec_l03Times_ev {p by_ : Int} {C : Nat} {r : List Int} (hp : 2 ≤ p ∧ p ≤ 31) (hC : C ≤ 1000) (h : RowP p C r) (hb : 0 ≤ by_ ∧ by_ ≤ p) : Ev (fun k => spec_l03Times.f k p r by_) (timesB p by_ r) := by
  unfold spec_l03Times.f timesB
  refine setloop_ev (0 : Int) (l := fun k i xs => spec_l03Times.l0 k p xs by_ i) r (fun _ x => x * by_ % p) (fun i xs hi hx hj t ht => ?_) (fun xs hx => ?_)
  · have hl := h.1
    refine Ev.step (fun k => ?_) ht
    have hm := mul_le31 hp (h.2 i) hb
    have e := hj i hi
    rw [if_neg (by omega)] at e
    simp only [spec_l03Times.l0]
    rw [if_pos (by omega), if_pos (by omega), if_neg (by omega), rd_cast, e, wr (by omega) (by omega), Int.tmod_eq_emod_of_nonneg hm.1, wr (by omega) (by omega)]
    rfl
  · refine Ev.step (f := fun _ => some xs) (fun k => ?_) (Ev.now _)
    simp only [spec_l03Times.l0]
    rw [if_neg (by omega)]
theorem impl_takeOff_ev {p t : Int} {C : Nat} {r s : List Int} (hp : 2 ≤ p ∧ p ≤ 31) (hC : C ≤ 1000) (h : RowP p C r) (hs : RowP p C s) (ht : 0 ≤ t ∧ t ≤ p) : Ev (fun k => impl_takeOff.f k p r s t) (addB p r s (p - t)) := by
  unfold impl_takeOff.f addB
  have hl := h.1
  have hsl := hs.1
  refine setloop_ev (0 : Int) (l := fun k i xs => impl_takeOff.l0 k p xs t s (s.length : Int) i) r (fun j x => (x + s.getD j 0 * (p - t)) % p) (fun i xs hi hx hj q hq => ?_) (fun xs hx => ?_)
  · refine Ev.step (fun k => ?_) hq
    have hm := mul_le31 hp (hs.2 i) (b := p - t) (by omega)
    have hr := h.2 i
    have e := hj i hi
    rw [if_neg (by omega)] at e
    simp only [impl_takeOff.l0]
    rw [if_pos (by omega), if_pos (by omega), if_pos (by omega), if_pos (by omega), if_neg (by omega), rd_cast, rd_cast, e, wr (x := p - t) (by omega) (by omega), Int.mul_comm (p - t), wr (x := s.getD i 0 * (p - t)) (by omega) (by omega), wr (x := r.getD i 0 + _) (by omega) (by omega), Int.tmod_eq_emod_of_nonneg (by omega), wr (by omega) (by omega)]
    rfl
  · refine Ev.step (f := fun _ => some xs) (fun k => ?_) (Ev.now _)
    simp only [impl_takeOff.l0]
    rw [if_neg (by omega)]
theorem spec_l03Add_ev {p t : Int} {C : Nat} {r s : List Int} (hp : 2 ≤ p ∧ p ≤ 31) (hC : C ≤ 1000) (h : RowP p C r) (hs : RowP p C s) (ht : 0 ≤ t ∧ t ≤ p) : Ev (fun k => spec_l03Add.f k p r s t) (addB p r s t) := by
  unfold spec_l03Add.f addB
  have hl := h.1
  have hsl := hs.1
  refine setloop_ev (0 : Int) (l := fun k i xs => spec_l03Add.l0 k p xs s t i) r (fun j x => (x + s.getD j 0 * t) % p) (fun i xs hi hx hj q hq => ?_) (fun xs hx => ?_)
  · refine Ev.step (fun k => ?_) hq
    have hm := mul_le31 hp (hs.2 i) (b := t) (by omega)
    have hr := h.2 i
    have e := hj i hi
    rw [if_neg (by omega)] at e
    simp only [spec_l03Add.l0]
    rw [if_pos (by omega), if_pos (by omega), if_pos (by omega), if_neg (by omega), rd_cast, rd_cast, e, wr (x := s.getD i 0 * t) (by omega) (by omega), wr (x := r.getD i 0 + _) (by omega) (by omega), Int.tmod_eq_emod_of_nonneg (by omega), wr (by omega) (by omega)]
    rfl
  · refine Ev.step (f := fun _ => some xs) (fun k => ?_) (Ev.now _)
    simp only [spec_l03Add.l0]
    rw [if_neg (by omega)]
/-- The first row from a on whose element c is not 0; the number of rows where there is none. -/
def findN (rows : List (List Int)) (c a : Nat) : Nat := a + (rows.drop a).findIdx (fun r => r.getD c 0 != 0)
theorem findN_here {rows : List (List Int)} {c a : Nat} (ha : a < rows.length) (h : (grp rows a).getD c 0 ≠ 0) : findN rows c a = a := by
  unfold findN
  rw [List.drop_eq_getElem_cons ha, List.findIdx_cons]
  have : (rows[a].getD c 0 != 0) = true := by rw [show rows[a] = grp rows a from by simp [grp, ha]]; exact bne_iff_ne.mpr h
  rw [this]; rfl
theorem findN_next {rows : List (List Int)} {c a : Nat} (ha : a < rows.length) (h : (grp rows a).getD c 0 = 0) : findN rows c a = findN rows c (a + 1) := by
  unfold findN
  rw [List.drop_eq_getElem_cons ha, List.findIdx_cons]
  have : (rows[a].getD c 0 != 0) = false := by rw [show rows[a] = grp rows a from by simp [grp, ha], h]; rfl
  rw [this]
  simp only [cond_false]
  omega
theorem findN_end {rows : List (List Int)} {c a : Nat} (ha : rows.length ≤ a) : findN rows c a = a := by
  unfold findN
  rw [List.drop_eq_nil_of_le ha]; rfl
theorem findN_le {rows : List (List Int)} {c : Nat} : ∀ (d a : Nat), a + d = rows.length → a ≤ findN rows c a ∧ findN rows c a ≤ rows.length ∧ (findN rows c a < rows.length → (grp rows (findN rows c a)).getD c 0 ≠ 0) ∧ ∀ j, a ≤ j → j < findN rows c a → (grp rows j).getD c 0 = 0 := by
  intro d
  induction d with
  | zero =>
    intro a ha
    rw [findN_end (by omega)]
    exact ⟨Nat.le_refl _, by omega, fun h => by omega, fun j h1 h2 => by omega⟩
  | succ d ih =>
    intro a ha
    by_cases h : (grp rows a).getD c 0 = 0
    · rw [findN_next (by omega) h]
      obtain ⟨h1, h2, h3, h4⟩ := ih (a + 1) (by omega)
      refine ⟨by omega, h2, h3, fun j hj hj2 => ?_⟩
      by_cases e : j = a
      · rw [e]; exact h
      · exact h4 j (by omega) hj2
    · rw [findN_here (by omega) h]
      exact ⟨Nat.le_refl _, by omega, fun _ => h, fun j h1 h2 => by omega⟩
theorem findB_ev {p : Int} {C c : Nat} {rows : List (List Int)} (hM : MatP p C rows) (hc : c < C) (hl : rows.length ≤ 1000) : ∀ (d a : Nat), a + d = rows.length → Ev (fun k => findB k rows (c : Int) (a : Int)) ((findN rows c a : Nat) : Int) := by
  intro d
  induction d with
  | zero =>
    intro a ha
    rw [findN_end (by omega)]
    refine Ev.step (f := fun _ => some (a : Int)) (fun k => ?_) (Ev.now _)
    simp only [findB]
    rw [if_neg (by omega)]
  | succ d ih =>
    intro a ha
    have hr := (hM a (by omega)).1
    by_cases h : (grp rows a).getD c 0 = 0
    · rw [findN_next (by omega) h]
      refine Ev.step (fun k => ?_) (ih (a + 1) (by omega))
      simp only [findB]
      rw [if_pos (by omega), if_pos (by omega), if_pos (by omega), rdL_cast, if_pos (by omega), rd_cast, if_pos h, wr (by omega) (by omega)]
      rfl
    · rw [findN_here (by omega) h]
      refine Ev.step (f := fun _ => some (a : Int)) (fun k => ?_) (Ev.now _)
      simp only [findB]
      rw [if_pos (by omega), if_pos (by omega), if_pos (by omega), rdL_cast, if_pos (by omega), rd_cast, if_neg h]
theorem swapB_grp {rows : List (List Int)} {n a : Nat} (hn : n < rows.length) (ha : a < rows.length) (j : Nat) : grp (swapB rows n a) j = if j = a then grp rows n else if j = n then grp rows a else grp rows j := by
  unfold swapB grp
  rw [getD_set _ _ _ _ _ (by rw [List.length_set]; exact ha), getD_set _ _ _ _ _ hn, rdL_cast, rdL_cast]
  rfl
theorem swapB_length (rows : List (List Int)) (n a : Nat) : (swapB rows n a).length = rows.length := by simp [swapB]
theorem swapB_comm {rows : List (List Int)} {n a : Nat} (hn : n < rows.length) (ha : a < rows.length) : swapB rows a n = swapB rows n a := by
  refine list_eq_getD [] (by simp [swapB]) fun j _ => ?_
  show grp (swapB rows a n) j = grp (swapB rows n a) j
  rw [swapB_grp ha hn, swapB_grp hn ha]
  by_cases h1 : j = n
  · subst h1
    by_cases h2 : j = a
    · subst h2; rfl
    · rw [if_pos rfl, if_neg h2, if_pos rfl]
  · by_cases h2 : j = a
    · subst h2; rw [if_neg h1, if_pos rfl, if_pos rfl]
    · rw [if_neg h1, if_neg h2, if_neg h2, if_neg h1]
def elimB (p : Int) (c n : Nat) (rows : List (List Int)) : List (List Int) := (List.range rows.length).map fun i => if i = n then grp rows i else addB p (grp rows i) (grp rows n) (p - (grp rows i).getD c 0)
theorem addB_p {p : Int} {C : Nat} {r s : List Int} (hp : 2 ≤ p) (h : RowP p C r) : addB p r s p = r := by
  refine list_eq_getD 0 (by simp [addB]) fun j hj => ?_
  unfold addB
  rw [getD_map _ _ _ _ (by simpa [addB] using hj), Int.add_mul_emod_self_right]
  have := h.2 j
  exact Int.emod_eq_of_lt this.1 (by omega)
theorem impl_elim_ev {p : Int} {C c n : Nat} {rows : List (List Int)} (hp : 2 ≤ p ∧ p ≤ 31) (hC : C ≤ 1000) (hl : rows.length ≤ 1000) (hM : MatP p C rows) (hc : c < C) (hn : n < rows.length) :
    Ev (fun k => impl_Matrix_echelon.l2 k p (c : Int) (n : Int) rows 0) (elimB p c n rows) := by
  unfold elimB
  refine setloop_ev ([] : List Int) (l := fun k i xs => impl_Matrix_echelon.l2 k p (c : Int) (n : Int) xs i) rows (fun i x => if i = n then x else addB p x (grp rows n) (p - x.getD c 0)) (fun i xs hi hx hj q hq => ?_) (fun xs hx => ?_)
  · have hr := hM i hi
    have hrn := hM n hn
    have e : grp xs i = grp rows i := by
      have := hj i hi
      rw [if_neg (by omega)] at this
      exact this
    have en : grp xs n = grp rows n := by
      have h2 := hj n hn
      have h3 : (if n < i then (if n = n then rows.getD n [] else addB p (rows.getD n []) (grp rows n) (p - (rows.getD n []).getD c 0)) else rows.getD n []) = rows.getD n [] := by split <;> simp
      exact h2.trans h3
    by_cases hin : i = n
    · subst hin
      have hset : xs.set i (if i = i then rows.getD i [] else addB p (rows.getD i []) (grp rows i) (p - (rows.getD i []).getD c 0)) = xs := by
        rw [if_pos rfl]
        refine list_eq_getD [] (by simp) fun j _ => ?_
        rw [getD_set _ _ _ _ _ (by omega)]
        by_cases h1 : j = i
        · subst h1; rw [if_pos rfl]; exact e.symm
        · rw [if_neg h1]
      rw [hset] at hq
      refine Ev.step (fun k => ?_) hq
      simp only [impl_Matrix_echelon.l2]
      rw [if_pos (by omega), if_pos (by omega), if_pos trivial, wr (by omega) (by omega)]
      rfl
    · refine Ev.step (f := fun k => (impl_takeOff.f k p (grp rows i) (grp rows n) ((grp rows i).getD c 0)).bind fun t => impl_Matrix_echelon.l2 k p (c : Int) (n : Int) (xs.set i t) ((i + 1 : Nat) : Int)) (fun k => ?_) (Ev.bind (impl_takeOff_ev hp hC hr hrn (by have := hr.2 c; omega)) ?_)
      · have h1 := hr.1
        simp only [impl_Matrix_echelon.l2]
        rw [if_pos (by omega), if_pos (by omega), if_neg (by omega), if_pos (by omega), if_pos (by omega), if_pos (by omega), rdL_cast, rdL_cast, e, en, if_pos (by omega), rd_cast, wr (by omega) (by omega)]
        rfl
      · rw [if_neg hin] at hq
        exact hq
  · refine Ev.step (f := fun _ => some xs) (fun k => ?_) (Ev.now _)
    simp only [impl_Matrix_echelon.l2]
    rw [if_neg (by omega)]
theorem spec_elim_ev {p : Int} {C c n : Nat} {rows : List (List Int)} (hp : 2 ≤ p ∧ p ≤ 31) (hC : C ≤ 1000) (hl : rows.length ≤ 1000) (hM : MatP p C rows) (hc : c < C) (hn : n < rows.length) :
    Ev (fun k => spec_l03Echelon.l2 k p (c : Int) (n : Int) rows 0) (elimB p c n rows) := by
  unfold elimB
  refine setloop_ev ([] : List Int) (l := fun k i xs => spec_l03Echelon.l2 k p (c : Int) (n : Int) xs i) rows (fun i x => if i = n then x else addB p x (grp rows n) (p - x.getD c 0)) (fun i xs hi hx hj q hq => ?_) (fun xs hx => ?_)
  · have hr := hM i hi
    have hrn := hM n hn
    have e : grp xs i = grp rows i := by
      have := hj i hi
      rw [if_neg (by omega)] at this
      exact this
    have en : grp xs n = grp rows n := by
      have h2 := hj n hn
      have h3 : (if n < i then (if n = n then rows.getD n [] else addB p (rows.getD n []) (grp rows n) (p - (rows.getD n []).getD c 0)) else rows.getD n []) = rows.getD n [] := by split <;> simp
      exact h2.trans h3
    have same : ∀ v, v = grp rows i → xs.set i v = xs := by
      rintro v rfl
      refine list_eq_getD [] (by simp) fun j _ => ?_
      rw [getD_set _ _ _ _ _ (by omega)]
      by_cases h1 : j = i
      · subst h1; rw [if_pos rfl]; exact e.symm
      · rw [if_neg h1]
    by_cases hin : i = n
    · subst hin
      rw [same _ (by rw [if_pos rfl]; rfl)] at hq
      refine Ev.step (fun k => ?_) hq
      simp only [spec_l03Echelon.l2]
      rw [if_pos (by omega), if_pos (by omega), if_pos trivial, wr (by omega) (by omega)]
      rfl
    · have h1 := hr.1
      by_cases h0 : (grp rows i).getD c 0 = 0
      · rw [same _ (by rw [if_neg hin]; show addB p (grp rows i) (grp rows n) (p - (grp rows i).getD c 0) = _; rw [h0, Int.sub_zero]; exact addB_p hp.1 hr)] at hq
        refine Ev.step (fun k => ?_) hq
        simp only [spec_l03Echelon.l2]
        rw [if_pos (by omega), if_pos (by omega), if_neg (by omega), if_pos (by omega), rdL_cast, e, if_pos (by omega), rd_cast, if_pos h0, wr (by omega) (by omega)]
        rfl
      · refine Ev.step (f := fun k => (spec_l03Add.f k p (grp rows i) (grp rows n) (p - (grp rows i).getD c 0)).bind fun t => spec_l03Echelon.l2 k p (c : Int) (n : Int) (xs.set i t) ((i + 1 : Nat) : Int)) (fun k => ?_) (Ev.bind (spec_l03Add_ev hp hC hr hrn (by have := hr.2 c; omega)) ?_)
        · have h2 := hr.2 c
          simp only [spec_l03Echelon.l2]
          rw [if_pos (by omega), if_pos (by omega), if_neg (by omega), if_pos (by omega), rdL_cast, rdL_cast, e, en, if_pos (by omega), rd_cast, if_neg h0, if_pos (by omega), if_pos (by omega), wr (x := p - _) (by omega) (by omega), wr (by omega) (by omega)]
          rfl
        · rw [if_neg hin] at hq
          exact hq
  · refine Ev.step (f := fun _ => some xs) (fun k => ?_) (Ev.now _)
    simp only [spec_l03Echelon.l2]
    rw [if_neg (by omega)]

end Go.Proofs.Ytjpbemomocccaaa.P

namespace Go.Proofs.Ytjpbemomocccaaa.P
open Go.RowKit Go.Proofs.YtjpbemomocccaaaW.PrintWords Go.Proofs.YtjpbemomocccaaaW.PrintLast Go.Proofs.YtjpbemomocccaaaW.PrintMore
attribute [local go_sem] max2_int min2_int max_two min_two max_three min_three max_four min_four
set_option linter.unusedVariables false
set_option linter.unusedSimpArgs false

/-! ### spec_EchelonOf: function 13 -/
end Go.Proofs.Ytjpbemomocccaaa.P

namespace Go.Proofs.Ytjpbemomocccaaa.P
open Go.RowKit Go.Proofs.YtjpbemomocccaaaW.PrintWords Go.Proofs.YtjpbemomocccaaaW.PrintLast Go.Proofs.YtjpbemomocccaaaW.PrintMore
attribute [local go_sem] max2_int min2_int max_two min_two max_three min_three max_four min_four
set_option linter.unusedVariables false
set_option linter.unusedSimpArgs false

/-! ### impl_EchelonOf: function 15 -/
end Go.Proofs.Ytjpbemomocccaaa.P

namespace Go.Proofs.Ytjpbemomocccaaa.P
open Go.RowKit Go.Proofs.YtjpbemomocccaaaW.PrintWords Go.Proofs.YtjpbemomocccaaaW.PrintLast Go.Proofs.YtjpbemomocccaaaW.PrintMore
attribute [local go_sem] max2_int min2_int max_two min_two max_three min_three max_four min_four
set_option linter.unusedVariables false
set_option linter.unusedSimpArgs false

/-! ### spec_l03Turned: function 100 -/
end Go.Proofs.Ytjpbemomocccaaa.P

namespace Go.Proofs.Ytjpbemomocccaaa.P
open Go.RowKit Go.Proofs.YtjpbemomocccaaaW.PrintWords Go.Proofs.YtjpbemomocccaaaW.PrintLast Go.Proofs.YtjpbemomocccaaaW.PrintMore
attribute [local go_sem] max2_int min2_int max_two min_two max_three min_three max_four min_four
set_option linter.unusedVariables false
set_option linter.unusedSimpArgs false

/-! ### spec_l03Told: function 55 -/
end Go.Proofs.Ytjpbemomocccaaa.P

namespace Go.Proofs.Ytjpbemomocccaaa.P
open Go.RowKit Go.Proofs.YtjpbemomocccaaaW.PrintWords Go.Proofs.YtjpbemomocccaaaW.PrintLast Go.Proofs.YtjpbemomocccaaaW.PrintMore
attribute [local go_sem] max2_int min2_int max_two min_two max_three min_three max_four min_four
set_option linter.unusedVariables false
set_option linter.unusedSimpArgs false

/-! ### impl_matrixOrLimit: function 57 -/
end Go.Proofs.Ytjpbemomocccaaa.P

namespace Go.Proofs.Ytjpbemomocccaaa.P
open Go.RowKit Go.Proofs.YtjpbemomocccaaaW.PrintWords Go.Proofs.YtjpbemomocccaaaW.PrintLast Go.Proofs.YtjpbemomocccaaaW.PrintMore
attribute [local go_sem] max2_int min2_int max_two min_two max_three min_three max_four min_four
set_option linter.unusedVariables false
set_option linter.unusedSimpArgs false

theorem validMB_parts {p cols : Int} {rows : List (List Int)} (h : validMB p cols rows = true) : (2 ≤ p ∧ p ≤ 31) ∧ (0 ≤ cols ∧ cols ≤ 12) ∧ rows.length ≤ 20 ∧ (∀ i, i < rows.length → ((grp rows i).length : Int) = cols ∧ elemsB p (grp rows i) = true) := by
  unfold validMB at h
  simp only [Bool.and_eq_true, decide_eq_true_eq] at h
  refine ⟨primeB_range h.1, h.2.1, h.2.2.1, fun i hi => ?_⟩
  have := List.all_eq_true.mp h.2.2.2 rows[i] (List.getElem_mem hi)
  unfold rowB at this
  simp only [Bool.and_eq_true, decide_eq_true_eq] at this
  rw [show grp rows i = rows[i] from by simp [grp, hi]]
  exact this
theorem sum_le_mul (l : List Nat) (m : Nat) (h : ∀ x ∈ l, x ≤ m) : l.sum ≤ l.length * m := by
  induction l with
  | nil => simp
  | cons a l ih =>
    have := ih (fun x hx => h x (List.mem_cons_of_mem _ hx))
    have := h a (List.mem_cons_self ..)
    rw [List.sum_cons, List.length_cons, Nat.succ_mul]
    omega
end Go.Proofs.Ytjpbemomocccaaa.P

namespace Go.Proofs.Ytjpbemomocccaaa.P
open Go.RowKit Go.Proofs.YtjpbemomocccaaaW.PrintWords Go.Proofs.YtjpbemomocccaaaW.PrintLast Go.Proofs.YtjpbemomocccaaaW.PrintMore
attribute [local go_sem] max2_int min2_int max_two min_two max_three min_three max_four min_four
set_option linter.unusedVariables false
set_option linter.unusedSimpArgs false

theorem own_eq (l : List Int) (hl : l.length ≤ 1048576) : spec_l00Own.f l = some l := by
  unfold spec_l00Own.f
  simp only [Option.bind_some, List.length_nil, List.nil_append]
  rw [if_pos (by omega)]
theorem clone_eq (l : List Int) (hl : l.length ≤ 1048576) : slices_Clone_int64_int64.f l = some l := by
  unfold slices_Clone_int64_int64.f
  rw [if_pos (by omega)]

end Go.Proofs.Ytjpbemomocccaaa.P

namespace Go.Proofs.Ytjpbemomocccaaa.P
open Go.RowKit Go.Proofs.YtjpbemomocccaaaW.PrintWords Go.Proofs.YtjpbemomocccaaaW.PrintLast Go.Proofs.YtjpbemomocccaaaW.PrintMore
attribute [local go_sem] max2_int min2_int max_two min_two max_three min_three max_four min_four
set_option linter.unusedVariables false
set_option linter.unusedSimpArgs false

/-- One column of the echelon. -/
def stepB (p : Int) (s : List (List Int) × List Int) (c : Nat) : List (List Int) × List Int :=
  if findN s.1 c s.2.length < s.1.length then
    (elimB p c s.2.length ((swapB s.1 s.2.length (findN s.1 c s.2.length)).set s.2.length (timesB p (invB p ((grp s.1 (findN s.1 c s.2.length)).getD c 0)) (grp s.1 (findN s.1 c s.2.length)))), s.2 ++ [(c : Int)])
  else s
/-- The rows and the columns of their first elements, behind all columns; the rows beyond these columns' number are still there. -/
def fullB (p : Int) (C : Nat) (rows : List (List Int)) : List (List Int) × List Int := (List.range C).foldl (stepB p) (rows, [])
structure EchP (p : Int) (C : Nat) (s : List (List Int) × List Int) : Prop where
  mat : MatP p C s.1
  le : s.2.length ≤ s.1.length
  rl : s.1.length ≤ 1000
theorem elimB_length (p : Int) (c n : Nat) (rows : List (List Int)) : (elimB p c n rows).length = rows.length := by simp [elimB]
theorem elimB_grp {p : Int} {c n : Nat} {rows : List (List Int)} {i : Nat} (hi : i < rows.length) : grp (elimB p c n rows) i = if i = n then grp rows i else addB p (grp rows i) (grp rows n) (p - (grp rows i).getD c 0) := by
  unfold elimB
  show ((List.range rows.length).map _).getD i [] = _
  rw [getD_map _ _ _ _ hi]
theorem elimB_mat {p : Int} {C c n : Nat} {rows : List (List Int)} (hp : 2 ≤ p) (h : MatP p C rows) : MatP p C (elimB p c n rows) := by
  intro i hi
  rw [elimB_length] at hi
  rw [elimB_grp hi]
  split
  · exact h i hi
  · exact addB_row hp (h i hi)
theorem set_mat {p : Int} {C n : Nat} {rows : List (List Int)} {r : List Int} (h : MatP p C rows) (hn : n < rows.length) (hr : RowP p C r) : MatP p C (rows.set n r) := by
  intro i hi
  rw [List.length_set] at hi
  show RowP p C ((rows.set n r).getD i [])
  rw [getD_set _ _ _ _ _ hn]
  split
  · exact hr
  · exact h i hi
theorem swap_mat {p : Int} {C n a : Nat} {rows : List (List Int)} (h : MatP p C rows) (hn : n < rows.length) (ha : a < rows.length) : MatP p C (swapB rows n a) := by
  intro i hi
  rw [swapB_length] at hi
  rw [swapB_grp hn ha]
  split
  · exact h n hn
  · split
    · exact h a ha
    · exact h i hi
theorem step_ech {p : Int} {C : Nat} {s : List (List Int) × List Int} (hp : 2 ≤ p) (h : EchP p C s) (c : Nat) : EchP p C (stepB p s c) := by
  unfold stepB
  by_cases ha : findN s.1 c s.2.length < s.1.length
  · have hle := (findN_le (rows := s.1) (c := c) (s.1.length - s.2.length) s.2.length (by have := h.le; omega)).1
    have hn : s.2.length < s.1.length := by omega
    rw [if_pos ha]
    refine ⟨elimB_mat hp (set_mat (swap_mat h.mat hn ha) (by rw [swapB_length]; exact hn) (timesB_row hp (h.mat _ ha))), ?_, ?_⟩
    · simp only [elimB_length, List.length_set, swapB_length, List.length_append, List.length_singleton]; omega
    · simp only [elimB_length, List.length_set, swapB_length]; exact h.rl
  · rw [if_neg ha]; exact h
theorem step_length (p : Int) (s : List (List Int) × List Int) (c : Nat) : (stepB p s c).1.length = s.1.length := by
  unfold stepB
  split
  · simp [elimB_length, swapB_length]
  · rfl
theorem invB_range {p a : Int} (hp : 2 ≤ p) : 0 ≤ invB p a ∧ invB p a ≤ p - 1 := pw_range hp _
theorem impl_ech_loop {p : Int} {C : Nat} (hp : 2 ≤ p ∧ p ≤ 31) (hC : C ≤ 1000) : ∀ (d c : Nat) (s : List (List Int) × List Int), c + d = C → EchP p C s → Ev (fun k => impl_Matrix_echelon.l0 k p (C : Int) s.1 s.2 (c : Int)) ((List.range' c d).foldl (stepB p) s) := by
  intro d
  induction d with
  | zero =>
    intro c s hc h
    refine Ev.step (f := fun _ => some (s.1, s.2)) (fun k => ?_) (Ev.now _)
    simp only [impl_Matrix_echelon.l0]
    rw [if_neg (by omega)]
  | succ d ih =>
    intro c s hc h
    have hn := ih (c + 1) (stepB p s c) (by omega) (step_ech hp.1 h c)
    rw [List.range'_succ, List.foldl_cons]
    obtain ⟨g1, g2, g3, g4⟩ := findN_le (rows := s.1) (c := c) (s.1.length - s.2.length) s.2.length (by have := h.le; omega)
    have hrl := h.rl
    refine Ev.step (f := fun k => (findB k s.1 (c : Int) (s.2.length : Int)).bind fun a => if a = (s.1.length : Int) then impl_Matrix_echelon.l0 k p (C : Int) s.1 s.2 ((c + 1 : Nat) : Int) else (if 0 ≤ a then (if a < (s.1.length : Int) then (if (s.2.length : Int) < (s.1.length : Int) then (if 0 ≤ (c : Int) then (if (c : Int) < ((rd_L1 (swapB s.1 s.2.length a.toNat) (s.2.length : Int)).length : Int) then ((impl_inverse.f k p (rd (rd_L1 (swapB s.1 s.2.length a.toNat) (s.2.length : Int)) (c : Int))).bind fun inv => ((impl_scaled.f k p (rd_L1 (swapB s.1 s.2.length a.toNat) (s.2.length : Int)) inv).bind fun r => ((impl_Matrix_echelon.l2 k p (c : Int) (s.2.length : Int) ((swapB s.1 s.2.length a.toNat).set s.2.length r) 0).bind fun rows2 => if s.2.length < 17592186044416 then impl_Matrix_echelon.l0 k p (C : Int) rows2 (s.2 ++ [(c : Int)]) ((c + 1 : Nat) : Int) else none))) else none) else none) else none) else none) else none)) (fun k => ?_) ?_
    · simp only [impl_Matrix_echelon.l0]
      rw [if_pos (by omega), wr (x := (c : Int) + 1) (by omega) (by omega)]
      rfl
    · refine Ev.bind (findB_ev h.mat (by omega) hrl (s.1.length - s.2.length) s.2.length (by have := h.le; omega)) ?_
      by_cases ha : findN s.1 c s.2.length < s.1.length
      · have hlt : s.2.length < s.1.length := by omega
        have hra := h.mat _ ha
        have e1 : grp (swapB s.1 s.2.length (findN s.1 c s.2.length)) s.2.length = grp s.1 (findN s.1 c s.2.length) := by
          rw [swapB_grp hlt ha]
          split
          · rename_i e; rw [← e]
          · rw [if_pos rfl]
        have hl := hra.1
        simp only [if_neg (show ¬ ((findN s.1 c s.2.length : Nat) : Int) = (s.1.length : Int) by omega), if_pos (show (0 : Int) ≤ ((findN s.1 c s.2.length : Nat) : Int) by omega), if_pos (show ((findN s.1 c s.2.length : Nat) : Int) < (s.1.length : Int) by omega), if_pos (show (s.2.length : Int) < (s.1.length : Int) by omega), if_pos (show (0 : Int) ≤ (c : Int) by omega), Int.toNat_natCast, rdL_cast, e1, rd_cast, if_pos (show (c : Int) < ((grp s.1 (findN s.1 c s.2.length)).length : Int) by omega), if_pos (show s.2.length < 17592186044416 by omega)]
        refine Ev.bind (impl_inverse_ev p _ hp (hra.2 c)) (Ev.bind (impl_scaled_ev hp hC hra (by have := invB_range (a := (grp s.1 (findN s.1 c s.2.length)).getD c 0) hp.1; unfold invB at *; omega)) (Ev.bind (impl_elim_ev hp hC (by rw [List.length_set, swapB_length]; exact hrl) (set_mat (swap_mat h.mat hlt ha) (by rw [swapB_length]; exact hlt) (timesB_row hp.1 hra)) (by omega) (by rw [List.length_set, swapB_length]; exact hlt)) ?_))
        unfold stepB at hn ⊢
        rw [if_pos ha] at hn ⊢
        exact hn
      · simp only [if_pos (show ((findN s.1 c s.2.length : Nat) : Int) = (s.1.length : Int) by omega)]
        unfold stepB at hn ⊢
        rw [if_neg ha] at hn ⊢
        exact hn
theorem step_full {p : Int} {s : List (List Int) × List Int} (h : s.1.length ≤ s.2.length) (c : Nat) : stepB p s c = s := by
  unfold stepB
  rw [findN_end h, if_neg (by omega)]
theorem foldl_full {p : Int} {s : List (List Int) × List Int} (h : s.1.length ≤ s.2.length) : ∀ l : List Nat, l.foldl (stepB p) s = s := by
  intro l
  induction l with
  | nil => rfl
  | cons c l ih => rw [List.foldl_cons, step_full h, ih]
theorem spec_ech_loop {p : Int} {C : Nat} (hp : 2 ≤ p ∧ p ≤ 31) (hC : C ≤ 1000) : ∀ (d c : Nat) (s : List (List Int) × List Int), c + d = C → EchP p C s → Ev (fun k => spec_l03Echelon.l0 k p (C : Int) s.1 s.2 (s.2.length : Int) (c : Int)) (((List.range' c d).foldl (stepB p) s).1, ((List.range' c d).foldl (stepB p) s).2, (((List.range' c d).foldl (stepB p) s).2.length : Int)) := by
  intro d
  induction d with
  | zero =>
    intro c s hc h
    refine Ev.step (f := fun _ => some (s.1, s.2, (s.2.length : Int))) (fun k => ?_) (Ev.now _)
    simp only [spec_l03Echelon.l0]
    rw [if_neg (by omega)]
  | succ d ih =>
    intro c s hc h
    by_cases hful : s.1.length ≤ s.2.length
    · rw [foldl_full hful]
      refine Ev.step (f := fun _ => some (s.1, s.2, (s.2.length : Int))) (fun k => ?_) (Ev.now _)
      simp only [spec_l03Echelon.l0]
      rw [if_pos (by omega), if_neg (by omega)]
    have hlt : s.2.length < s.1.length := by omega
    have hn := ih (c + 1) (stepB p s c) (by omega) (step_ech hp.1 h c)
    rw [List.range'_succ, List.foldl_cons]
    obtain ⟨g1, g2, g3, g4⟩ := findN_le (rows := s.1) (c := c) (s.1.length - s.2.length) s.2.length (by have := h.le; omega)
    have hrl := h.rl
    refine Ev.step (f := fun k => (findB k s.1 (c : Int) (s.2.length : Int)).bind fun a => if a = (s.1.length : Int) then spec_l03Echelon.l0 k p (C : Int) s.1 s.2 (s.2.length : Int) ((c + 1 : Nat) : Int) else (if 0 ≤ a then (if a < (s.1.length : Int) then (if 0 ≤ (s.2.length : Int) then (if 0 ≤ (c : Int) then (if (c : Int) < ((rd_L1 s.1 a).length : Int) then ((spec_l03Inverse.f k p (rd (rd_L1 s.1 a) (c : Int))).bind fun inv => ((spec_l03Times.f k p (rd_L1 s.1 a) inv).bind fun r => ((spec_l03Echelon.l2 k p (c : Int) (s.2.length : Int) ((swapB s.1 a.toNat (s.2.length : Int).toNat).set (s.2.length : Int).toNat r) 0).bind fun rows2 => if s.2.length < 17592186044416 then spec_l03Echelon.l0 k p (C : Int) rows2 (s.2 ++ [(c : Int)]) (wrap64 ((s.2.length : Int) + 1)) ((c + 1 : Nat) : Int) else none))) else none) else none) else none) else none) else none)) (fun k => ?_) ?_
    · simp only [spec_l03Echelon.l0]
      rw [if_pos (by omega), if_pos (by omega), wr (x := (c : Int) + 1) (by omega) (by omega)]
      rfl
    · refine Ev.bind (findB_ev h.mat (by omega) hrl (s.1.length - s.2.length) s.2.length (by have := h.le; omega)) ?_
      by_cases ha : findN s.1 c s.2.length < s.1.length
      · have hra := h.mat _ ha
        have hl := hra.1
        simp only [if_neg (show ¬ ((findN s.1 c s.2.length : Nat) : Int) = (s.1.length : Int) by omega), if_pos (show (0 : Int) ≤ ((findN s.1 c s.2.length : Nat) : Int) by omega), if_pos (show ((findN s.1 c s.2.length : Nat) : Int) < (s.1.length : Int) by omega), if_pos (show (0 : Int) ≤ (s.2.length : Int) by omega), if_pos (show (0 : Int) ≤ (c : Int) by omega), Int.toNat_natCast, rdL_cast, rd_cast, if_pos (show (c : Int) < ((grp s.1 (findN s.1 c s.2.length)).length : Int) by omega), if_pos (show s.2.length < 17592186044416 by omega), swapB_comm hlt ha, wr (x := (s.2.length : Int) + 1) (by omega) (by omega)]
        refine Ev.bind (spec_inverse_ev p _ hp (hra.2 c)) (Ev.bind (spec_l03Times_ev hp hC hra (by have := invB_range (a := (grp s.1 (findN s.1 c s.2.length)).getD c 0) hp.1; unfold invB at *; omega)) (Ev.bind (spec_elim_ev hp hC (by rw [List.length_set, swapB_length]; exact hrl) (set_mat (swap_mat h.mat hlt ha) (by rw [swapB_length]; exact hlt) (timesB_row hp.1 hra)) (by omega) (by rw [List.length_set, swapB_length]; exact hlt)) ?_))
        unfold stepB at hn ⊢
        rw [if_pos ha] at hn ⊢
        simp only [List.length_append, List.length_singleton] at hn
        exact hn
      · simp only [if_pos (show ((findN s.1 c s.2.length : Nat) : Int) = (s.1.length : Int) by omega)]
        unfold stepB at hn ⊢
        rw [if_neg ha] at hn ⊢
        exact hn
theorem fold_ech {p : Int} {C : Nat} (hp : 2 ≤ p) : ∀ (l : List Nat) (s : List (List Int) × List Int), EchP p C s → EchP p C (l.foldl (stepB p) s) ∧ (l.foldl (stepB p) s).1.length = s.1.length := by
  intro l
  induction l with
  | nil => intro s h; exact ⟨h, rfl⟩
  | cons c l ih =>
    intro s h
    obtain ⟨h1, h2⟩ := ih (stepB p s c) (step_ech hp h c)
    exact ⟨h1, h2.trans (step_length p s c)⟩
theorem full_ech {p : Int} {C : Nat} {rows : List (List Int)} (hp : 2 ≤ p) (hM : MatP p C rows) (hl : rows.length ≤ 1000) : EchP p C (fullB p C rows) ∧ (fullB p C rows).1.length = rows.length := fold_ech hp _ _ ⟨hM, Nat.zero_le _, hl⟩
/-- The echelon's rows and the columns of their first elements. -/
def echB (p : Int) (C : Nat) (rows : List (List Int)) : List (List Int) × List Int := ((fullB p C rows).1.take (fullB p C rows).2.length, (fullB p C rows).2)
theorem copies_same (rows : List (List Int)) : (List.range rows.length).map (fun i => grp rows i) = rows := list_of_getD rows []
theorem impl_copyRows_ev (rows : List (List Int)) (hl : rows.length ≤ 1048576) (hr : ∀ r ∈ rows, r.length ≤ 1048576) : Ev (fun k => impl_copyRows.f k rows) rows := by
  unfold impl_copyRows.f
  refine build_ev (l := fun k i acc => impl_copyRows.l0 k acc rows (rows.length : Int) i) rows.length (fun i => grp rows i) (fun i acc hi ha r hr2 => ?_) ?_
  · refine Ev.step (fun k => ?_) hr2
    simp only [impl_copyRows.l0]
    rw [if_pos (by omega), if_pos (by omega), if_pos (by omega), rdL_cast, clone_eq _ (grp_len hr _), wr (by omega) (by omega)]
    simp only [Option.bind_some, if_pos (show acc.length < 5864062014805 by omega)]
    rfl
  · refine Ev.step (f := fun _ => some rows) (fun k => ?_) (Ev.now _)
    simp only [impl_copyRows.l0]
    rw [if_neg (by omega), copies_same]
theorem spec_l03Copy_ev (p c : Int) (rows : List (List Int)) (hl : rows.length ≤ 1048576) (hr : ∀ r ∈ rows, r.length ≤ 1048576) : Ev (fun k => spec_l03Copy.f k p c rows) (p, c, rows) := by
  unfold spec_l03Copy.f
  refine build_ev (l := fun k i acc => spec_l03Copy.l0 k i p c rows p c acc) rows.length (fun i => grp rows i) (fun i acc hi ha r hr2 => ?_) ?_
  · refine Ev.step (fun k => ?_) hr2
    simp only [spec_l03Copy.l0]
    rw [if_pos (by omega), if_pos (by omega), rdL_cast, own_eq _ (grp_len hr _), wr (by omega) (by omega)]
    simp only [Option.bind_some, if_pos (show acc.length < 5864062014805 by omega)]
    rfl
  · refine Ev.step (f := fun _ => some (p, c, rows)) (fun k => ?_) (Ev.now _)
    simp only [spec_l03Copy.l0]
    rw [if_neg (by omega), copies_same]
theorem mat_small {p : Int} {C : Nat} {rows : List (List Int)} (hM : MatP p C rows) : ∀ r ∈ rows, r.length = C := by
  intro r hr
  obtain ⟨i, hi, rfl⟩ := List.getElem_of_mem hr
  have := (hM i hi).1
  rwa [show grp rows i = rows[i] from by simp [grp, hi]] at this
theorem impl_echelon_ev {p : Int} {C : Nat} {rows : List (List Int)} (hp : 2 ≤ p ∧ p ≤ 31) (hC : C ≤ 1000) (hM : MatP p C rows) (hl : rows.length ≤ 1000) : Ev (fun k => impl_Matrix_echelon.f k p (C : Int) rows) (p, (C : Int), (echB p C rows).1, (echB p C rows).2) := by
  unfold impl_Matrix_echelon.f
  have hs := mat_small hM
  refine Ev.bind (impl_copyRows_ev rows (by omega) (fun r hr => by rw [hs r hr]; omega)) ?_
  refine Ev.bind (impl_ech_loop hp hC C 0 (rows, []) (by omega) ⟨hM, Nat.zero_le _, hl⟩) ?_
  rw [← List.range_eq_range']
  have h := (full_ech hp.1 hM hl).1.le
  unfold echB
  show Ev (fun _ => if (fullB p C rows).2.length ≤ (fullB p C rows).1.length then _ else none) _
  simp only [if_pos h]
  exact Ev.now _
theorem spec_echelon_ev {p : Int} {C : Nat} {rows : List (List Int)} (hp : 2 ≤ p ∧ p ≤ 31) (hC : C ≤ 1000) (hM : MatP p C rows) (hl : rows.length ≤ 1000) : Ev (fun k => spec_l03Echelon.f k p (C : Int) rows) (p, (C : Int), (echB p C rows).1, (echB p C rows).2) := by
  unfold spec_l03Echelon.f
  have hs := mat_small hM
  refine Ev.bind (spec_l03Copy_ev p (C : Int) rows (by omega) (fun r hr => by rw [hs r hr]; omega)) ?_
  refine Ev.bind (spec_ech_loop hp hC C 0 (rows, []) (by omega) ⟨hM, Nat.zero_le _, hl⟩) ?_
  rw [← List.range_eq_range']
  have h := (full_ech hp.1 hM hl).1.le
  unfold echB
  show Ev (fun _ => if (0 : Int) ≤ ((fullB p C rows).2.length : Int) then (if ((fullB p C rows).2.length : Int) ≤ ((fullB p C rows).1.length : Int) then some (p, (C : Int), (fullB p C rows).1.take ((fullB p C rows).2.length : Int).toNat, (fullB p C rows).2) else none) else none) _
  simp only [if_pos (show (0 : Int) ≤ ((fullB p C rows).2.length : Int) by omega), if_pos (show ((fullB p C rows).2.length : Int) ≤ ((fullB p C rows).1.length : Int) by omega), Int.toNat_natCast]
  exact Ev.now _
theorem MatP_of_valid {p cols : Int} {rows : List (List Int)} (h : validMB p cols rows = true) : (2 ≤ p ∧ p ≤ 31) ∧ (cols.toNat : Int) = cols ∧ cols.toNat ≤ 12 ∧ rows.length ≤ 20 ∧ MatP p cols.toNat rows := by
  obtain ⟨h1, h2, h3, h4⟩ := validMB_parts h
  refine ⟨h1, by omega, by omega, h3, fun i hi => ⟨by have := (h4 i hi).1; omega, fun j => ?_⟩⟩
  by_cases hj : j < (grp rows i).length
  · have := elemsB_get (h4 i hi).2 j hj
    rw [List.getD_eq_getElem?_getD, List.getElem?_eq_getElem hj]
    exact this
  · rw [List.getD_eq_getElem?_getD, List.getElem?_eq_none (by omega)]
    show 0 ≤ (0 : Int) ∧ (0 : Int) ≤ p - 1
    omega
theorem ech_mat {p : Int} {C : Nat} {rows : List (List Int)} (hp : 2 ≤ p) (hM : MatP p C rows) (hl : rows.length ≤ 1000) : MatP p C (echB p C rows).1 ∧ (echB p C rows).1.length = (echB p C rows).2.length ∧ (echB p C rows).1.length ≤ rows.length := by
  obtain ⟨h1, h2⟩ := full_ech hp hM hl
  have hle := h1.le
  have e : (echB p C rows).1.length = (echB p C rows).2.length := by
    unfold echB
    rw [List.length_take]
    show min (fullB p C rows).2.length (fullB p C rows).1.length = (fullB p C rows).2.length
    omega
  refine ⟨fun i hi => ?_, e, ?_⟩
  · have hi2 : i < (fullB p C rows).2.length := by rw [e] at hi; exact hi
    have : grp (echB p C rows).1 i = grp (fullB p C rows).1 i := by
      unfold echB grp
      rw [List.getD_eq_getElem?_getD, List.getD_eq_getElem?_getD, List.getElem?_take, if_pos hi2]
    rw [this]
    exact h1.mat i (by omega)
  · rw [e]; unfold echB; show (fullB p C rows).2.length ≤ _; omega
theorem mat_size {p : Int} {C m : Nat} {rows : List (List Int)} (hM : MatP p C rows) (hl : rows.length ≤ m) : (∀ r ∈ rows, r.length ≤ C) ∧ allLen rows ≤ m * C := by
  have hr : ∀ r ∈ rows, r.length ≤ C := fun r h => by rw [mat_small hM r h]; exact Nat.le_refl _
  refine ⟨hr, ?_⟩
  unfold allLen
  have := sum_le_mul (rows.map List.length) C (fun x hx => by obtain ⟨r, hr', rfl⟩ := List.mem_map.mp hx; exact hr r hr')
  rw [List.length_map] at this
  exact Nat.le_trans this (Nat.mul_le_mul_right _ hl)
end Go.Proofs.Ytjpbemomocccaaa.P

namespace Go.Proofs.Ytjpbemomocccaaa.P
open Go.RowKit Go.Proofs.YtjpbemomocccaaaW.PrintWords Go.Proofs.YtjpbemomocccaaaW.PrintLast Go.Proofs.YtjpbemomocccaaaW.PrintMore
attribute [local go_sem] max2_int min2_int max_two min_two max_three min_three max_four min_four
set_option linter.unusedVariables false
set_option linter.unusedSimpArgs false

/-- Sums, and what stays modulo p. -/
def sumN : Nat → (Nat → Int) → Int
  | 0, _ => 0
  | n + 1, f => sumN n f + f n
theorem sumN_congr {n : Nat} {f g : Nat → Int} (h : ∀ i, i < n → f i = g i) : sumN n f = sumN n g := by
  induction n with
  | zero => rfl
  | succ n ih => simp only [sumN]; rw [ih (fun i hi => h i (by omega)), h n (by omega)]
theorem sumN_add (n : Nat) (f g : Nat → Int) : sumN n (fun i => f i + g i) = sumN n f + sumN n g := by
  induction n with
  | zero => rfl
  | succ n ih => simp only [sumN]; rw [ih]; omega
theorem sumN_mul (n : Nat) (c : Int) (f : Nat → Int) : sumN n (fun i => c * f i) = c * sumN n f := by
  induction n with
  | zero => simp [sumN]
  | succ n ih => simp only [sumN]; rw [ih, Int.mul_add]
theorem sumN_zero {n : Nat} {f : Nat → Int} (h : ∀ i, i < n → f i = 0) : sumN n f = 0 := by
  induction n with
  | zero => rfl
  | succ n ih => simp only [sumN]; rw [ih (fun i hi => h i (by omega)), h n (by omega)]; rfl
/-- One of the summands apart. -/
theorem sumN_apart {n a : Nat} (ha : a < n) (f : Nat → Int) : sumN n f = sumN n (fun i => if i = a then 0 else f i) + f a := by
  induction n with
  | zero => omega
  | succ n ih =>
    simp only [sumN]
    by_cases h : a = n
    · subst h
      rw [if_pos rfl, sumN_congr (f := fun i => if i = a then 0 else f i) (g := f) (fun i hi => if_neg (by omega))]
      omega
    · rw [ih (by omega), if_neg (Ne.symm h)]
      omega
/-- Equal modulo p. -/
def Eqm (p a b : Int) : Prop := ∃ k, a = b + p * k
theorem Eqm.rfl_ (p a : Int) : Eqm p a a := ⟨0, by omega⟩
theorem Eqm.of_eq {p a b : Int} (h : a = b) : Eqm p a b := ⟨0, by omega⟩
theorem Eqm.symm {p a b : Int} (h : Eqm p a b) : Eqm p b a := by obtain ⟨k, h⟩ := h; exact ⟨-k, by grind⟩
theorem Eqm.trans {p a b c : Int} (h : Eqm p a b) (h2 : Eqm p b c) : Eqm p a c := by obtain ⟨k, h⟩ := h; obtain ⟨l, h2⟩ := h2; exact ⟨k + l, by grind⟩
theorem Eqm.add {p a b c d : Int} (h : Eqm p a b) (h2 : Eqm p c d) : Eqm p (a + c) (b + d) := by obtain ⟨k, h⟩ := h; obtain ⟨l, h2⟩ := h2; exact ⟨k + l, by grind⟩
theorem Eqm.sub {p a b c d : Int} (h : Eqm p a b) (h2 : Eqm p c d) : Eqm p (a - c) (b - d) := by obtain ⟨k, h⟩ := h; obtain ⟨l, h2⟩ := h2; exact ⟨k - l, by grind⟩
theorem Eqm.mul {p a b c d : Int} (h : Eqm p a b) (h2 : Eqm p c d) : Eqm p (a * c) (b * d) := by obtain ⟨k, h⟩ := h; obtain ⟨l, h2⟩ := h2; exact ⟨k * d + b * l + p * k * l, by grind⟩
theorem Eqm.mod (p a : Int) : Eqm p (a % p) a := ⟨-(a / p), by have := Int.emod_add_mul_ediv a p; grind⟩
theorem Eqm.p_ (p : Int) : Eqm p p 0 := ⟨1, by omega⟩
theorem Eqm.eq_of {p a b : Int} (h : Eqm p a b) (ha : 0 ≤ a ∧ a ≤ p - 1) (hb : 0 ≤ b ∧ b ≤ p - 1) : a = b := by
  obtain ⟨k, h⟩ := h
  have h1 : a % p = b % p := by rw [h]; exact Int.add_mul_emod_self_left b p k
  rwa [Int.emod_eq_of_lt ha.1 (by omega), Int.emod_eq_of_lt hb.1 (by omega)] at h1
theorem Eqm.sumN_ {p : Int} {n : Nat} {f g : Nat → Int} (h : ∀ i, i < n → Eqm p (f i) (g i)) : Eqm p (sumN n f) (sumN n g) := by
  induction n with
  | zero => exact Eqm.rfl_ _ _
  | succ n ih => exact Eqm.add (ih fun i hi => h i (by omega)) (h n (by omega))
theorem sumN_swap {n a b : Nat} (ha : a < n) (hb : b < n) (f : Nat → Int) : sumN n (fun i => f (if i = a then b else if i = b then a else i)) = sumN n f := by
  by_cases hab : a = b
  · subst hab
    exact sumN_congr fun i _ => by by_cases h : i = a <;> simp [h]
  · rw [sumN_apart ha f, sumN_apart hb (fun i => if i = a then 0 else f i), sumN_apart ha (fun i => f (if i = a then b else if i = b then a else i)), sumN_apart hb (fun i => if i = a then 0 else f (if i = a then b else if i = b then a else i))]
    simp only [if_neg hab, if_neg (Ne.symm hab), if_pos trivial]
    have e : sumN n (fun i => if i = b then 0 else if i = a then 0 else f (if i = a then b else if i = b then a else i)) = sumN n (fun i => if i = b then 0 else if i = a then 0 else f i) := sumN_congr fun i _ => by
      by_cases h1 : i = b
      · simp [h1]
      · by_cases h2 : i = a
        · simp [h1, h2]
        · simp [h1, h2]
    rw [e]
    omega
theorem inv_all (p : Int) (hp : primeB p = true) (a : Int) (h1 : 1 ≤ a) (h2 : a ≤ p - 1) : (a * invB p a) % p = 1 := by
  have h := primeB_range hp
  have key : ∀ i : Fin 30, primeB ((i.val : Int) + 2) = true → ∀ j : Fin 31, 1 ≤ (j.val : Int) → (j.val : Int) ≤ ((i.val : Int) + 2) - 1 → ((j.val : Int) * invB ((i.val : Int) + 2) (j.val : Int)) % ((i.val : Int) + 2) = 1 := by decide +kernel
  have f31 : ∀ {P : Int → Prop}, (∀ i : Fin 31, P (i.val : Int)) → ∀ a : Int, 0 ≤ a → a ≤ 30 → P a := fun h a h1 h2 => by
    have := h ⟨a.toNat, by omega⟩
    rwa [show ((a.toNat : Nat) : Int) = a by omega] at this
  exact f31 (P := fun a => 1 ≤ a → a ≤ p - 1 → (a * invB p a) % p = 1)
    (fin30 (P := fun p => primeB p = true → ∀ j : Fin 31, 1 ≤ (j.val : Int) → (j.val : Int) ≤ p - 1 → ((j.val : Int) * invB p (j.val : Int)) % p = 1) key p h.1 h.2 hp) a (by omega) (by omega) h1 h2
theorem inv_eqm {p : Int} (hp : primeB p = true) {a : Int} (ha : 0 ≤ a ∧ a ≤ p - 1) (h0 : a ≠ 0) : Eqm p (a * invB p a) 1 := by
  have h := inv_all p hp a (by omega) (by omega)
  have _u1 := @Eqm.symm
  have _u2 := @Eqm.trans
  have := (Eqm.mod p (a * invB p a)).symm
  rwa [h] at this
/-- A row's elements. -/
def elm (r : List Int) (j : Nat) : Int := r.getD j 0
theorem elm_times {p b : Int} {r : List Int} {j : Nat} : Eqm p (elm (timesB p b r) j) (elm r j * b) := by
  unfold elm timesB
  by_cases h : j < r.length
  · rw [getD_map _ _ _ _ h]; exact Eqm.mod _ _
  · rw [List.getD_eq_getElem?_getD, List.getElem?_eq_none (by simp; omega), List.getD_eq_getElem?_getD, List.getElem?_eq_none (by omega)]
    exact Eqm.of_eq (by simp)
theorem elm_add {p t : Int} {C : Nat} {r s : List Int} {j : Nat} (hr : r.length = C) (hs : s.length = C) : Eqm p (elm (addB p r s t) j) (elm r j + elm s j * t) := by
  unfold elm addB
  by_cases h : j < r.length
  · rw [getD_map _ _ _ _ h]; exact Eqm.mod _ _
  · rw [List.getD_eq_getElem?_getD, List.getElem?_eq_none (by simp; omega), List.getD_eq_getElem?_getD, List.getElem?_eq_none (by omega), List.getD_eq_getElem?_getD, List.getElem?_eq_none (by omega)]
    exact Eqm.of_eq (by simp)
/-- What one column does to the elements: the row a goes to the place n, and is taken off all others. -/
structure StepR (p : Int) (C c n a : Nat) (A B : List (List Int)) : Prop where
  len : B.length = A.length
  at_n : ∀ j, Eqm p (elm (grp B n) j) (elm (grp A a) j * invB p (elm (grp A a) c))
  other : ∀ i, i < A.length → i ≠ n → ∀ j, Eqm p (elm (grp B i) j) (elm (grp A (if i = a then n else i)) j + elm (grp B n) j * (p - elm (grp A (if i = a then n else i)) c))
theorem step_found {p : Int} {C c : Nat} {s : List (List Int) × List Int} (hp : 2 ≤ p) (h : EchP p C s) (ha : findN s.1 c s.2.length < s.1.length) :
    StepR p C c s.2.length (findN s.1 c s.2.length) s.1 (stepB p s c).1 ∧ (stepB p s c).2 = s.2 ++ [(c : Int)] ∧ s.2.length ≤ findN s.1 c s.2.length := by
  have hle := (findN_le (rows := s.1) (c := c) (s.1.length - s.2.length) s.2.length (by have := h.le; omega)).1
  have hn : s.2.length < s.1.length := by omega
  have hz : EchP p C (stepB p s c) := step_ech hp h c
  have hmA := h.mat
  unfold stepB at hz ⊢
  rw [if_pos ha] at hz ⊢
  have hra := h.mat _ ha
  have hsw : ∀ i, i < s.1.length → grp ((swapB s.1 s.2.length (findN s.1 c s.2.length)).set s.2.length (timesB p (invB p ((grp s.1 (findN s.1 c s.2.length)).getD c 0)) (grp s.1 (findN s.1 c s.2.length)))) i = if i = s.2.length then timesB p (invB p ((grp s.1 (findN s.1 c s.2.length)).getD c 0)) (grp s.1 (findN s.1 c s.2.length)) else grp s.1 (if i = findN s.1 c s.2.length then s.2.length else i) := by
    intro i hi
    show ((swapB s.1 s.2.length (findN s.1 c s.2.length)).set s.2.length _).getD i [] = _
    rw [getD_set _ _ _ _ _ (by rw [swapB_length]; exact hn)]
    by_cases h1 : i = s.2.length
    · rw [if_pos h1, if_pos h1]
    · rw [if_neg h1, if_neg h1]
      have := swapB_grp hn ha i
      unfold grp at this
      rw [this, if_neg h1]
      split <;> rfl
  have hlen : ((swapB s.1 s.2.length (findN s.1 c s.2.length)).set s.2.length (timesB p (invB p ((grp s.1 (findN s.1 c s.2.length)).getD c 0)) (grp s.1 (findN s.1 c s.2.length)))).length = s.1.length := by rw [List.length_set, swapB_length]
  have hrow_n := hsw s.2.length hn
  rw [if_pos rfl] at hrow_n
  refine ⟨⟨by rw [elimB_length, hlen], fun j => ?_, fun i hi hne j => ?_⟩, rfl, hle⟩
  · rw [elimB_grp (by rw [hlen]; exact hn), if_pos rfl, hrow_n]
    exact elm_times
  · have hi2 : (if i = findN s.1 c s.2.length then s.2.length else i) < s.1.length := by split <;> omega
    have e1 := hsw i hi
    rw [if_neg hne] at e1
    rw [elimB_grp (by rw [hlen]; exact hi), if_neg hne, elimB_grp (by rw [hlen]; exact hn), if_pos rfl, hrow_n, e1]
    exact elm_add (hmA _ hi2).1 (timesB_row hp hra).1

end Go.Proofs.Ytjpbemomocccaaa.P

namespace Go.Proofs.Ytjpbemomocccaaa.P
open Go.RowKit Go.Proofs.YtjpbemomocccaaaW.PrintWords Go.Proofs.YtjpbemomocccaaaW.PrintLast Go.Proofs.YtjpbemomocccaaaW.PrintMore
attribute [local go_sem] max2_int min2_int max_two min_two max_three min_three max_four min_four
set_option linter.unusedVariables false
set_option linter.unusedSimpArgs false

/-- No sum of multiples of the rows is 0, but that of zeros. -/
def IndP (p : Int) (C : Nat) (A : List (List Int)) : Prop := ∀ u : Nat → Int, (∀ j, j < C → Eqm p (sumN A.length (fun i => u i * elm (grp A i) j)) 0) → ∀ i, i < A.length → Eqm p (u i) 0
theorem ind_step {p : Int} {C c n a : Nat} {A B : List (List Int)} (h : StepR p C c n a A B) (hn : n < A.length) (ha : a < A.length) (hx : Eqm p (elm (grp A a) c * invB p (elm (grp A a) c)) 1) (hI : IndP p C A) : IndP p C B := by
  intro u hu
  rw [h.len] at hu ⊢
  let t : Nat → Int := fun i => p - elm (grp A (if i = a then n else i)) c
  let w : Int := u n + sumN A.length (fun i => if i = n then 0 else u i * t i)
  let u' : Nat → Int := fun i => if i = n then invB p (elm (grp A a) c) * w else u i
  let tau : Nat → Nat := fun i => if i = n then a else if i = a then n else i
  have tt : ∀ i, tau (tau i) = i := by
    intro i
    simp only [tau]
    by_cases h1 : i = n
    · subst h1
      by_cases h2 : a = i
      · simp [h2]
      · simp [h2]
    · by_cases h2 : i = a
      · subst h2; simp [h1]
      · simp [h1, h2]
  have key : ∀ j, j < C → Eqm p (sumN A.length (fun k => u' (tau k) * elm (grp A k) j)) 0 := by
    intro j hj
    have e1 : sumN A.length (fun k => u' (tau k) * elm (grp A k) j) = sumN A.length (fun i => u' i * elm (grp A (tau i)) j) := by
      rw [← sumN_swap hn ha (fun k => u' (tau k) * elm (grp A k) j)]
      exact sumN_congr fun i _ => by
        show u' (tau (tau i)) * elm (grp A (tau i)) j = _
        rw [tt]
    rw [e1, sumN_apart hn]
    have e2 : Eqm p (sumN A.length (fun i => u i * elm (grp B i) j)) (sumN A.length (fun i => if i = n then 0 else u' i * elm (grp A (tau i)) j) + u' n * elm (grp A (tau n)) j) := by
      rw [sumN_apart hn (fun i => u i * elm (grp B i) j)]
      have s1 : Eqm p (sumN A.length (fun i => if i = n then 0 else u i * elm (grp B i) j)) (sumN A.length (fun i => (if i = n then 0 else u' i * elm (grp A (tau i)) j) + elm (grp B n) j * (if i = n then 0 else u i * t i))) := by
        refine Eqm.sumN_ fun i hi => ?_
        by_cases hin : i = n
        · rw [if_pos hin, if_pos hin, if_pos hin]; exact Eqm.of_eq (by simp)
        · rw [if_neg hin, if_neg hin, if_neg hin]
          have ho := h.other i hi hin j
          simp only [u', tau, if_neg hin]
          exact (Eqm.mul (Eqm.rfl_ p (u i)) ho).trans (Eqm.of_eq (by simp only [t]; grind))
      rw [sumN_add, sumN_mul] at s1
      have s2 : Eqm p (u' n * elm (grp A (tau n)) j) (elm (grp B n) j * w) := by
        simp only [u', tau, if_pos trivial]
        exact (Eqm.of_eq (by grind)).trans (Eqm.mul (h.at_n j).symm (Eqm.rfl_ p w))
      refine (Eqm.add s1 (Eqm.rfl_ p _)).trans ?_
      refine (Eqm.of_eq ?_).trans (Eqm.add (Eqm.rfl_ p _) s2.symm)
      simp only [w]
      grind
    exact e2.symm.trans (hu j hj)
  have hz := hI (fun k => u' (tau k)) key
  have hz2 : ∀ i, i < A.length → Eqm p (u' i) 0 := fun i hi => by
    have hti : tau i < A.length := by simp only [tau]; split; exact ha; split; exact hn; exact hi
    have := hz (tau i) hti
    simpa [tt] using this
  have ho : ∀ i, i < A.length → i ≠ n → Eqm p (u i) 0 := fun i hi hin => by
    have := hz2 i hi
    simpa [u', hin] using this
  have hw : Eqm p w 0 := by
    have h1 := hz2 n hn
    simp only [u', if_pos trivial] at h1
    have h2 := Eqm.mul (Eqm.rfl_ p (elm (grp A a) c)) h1
    have h3 := Eqm.mul hx (Eqm.rfl_ p w)
    exact ((Eqm.of_eq (by grind)).trans h3.symm).trans ((Eqm.of_eq (by grind)).trans (h2.trans (Eqm.of_eq (by grind))))
  have hs : Eqm p (sumN A.length (fun i => if i = n then 0 else u i * t i)) 0 := by
    refine (Eqm.sumN_ (g := fun _ => 0) fun i hi => ?_).trans (Eqm.of_eq (sumN_zero fun _ _ => rfl))
    by_cases hin : i = n
    · rw [if_pos hin]; exact Eqm.rfl_ _ _
    · rw [if_neg hin]; exact (Eqm.mul (ho i hi hin) (Eqm.rfl_ p (t i))).trans (Eqm.of_eq (by simp))
  intro i hi
  by_cases hin : i = n
  · subst hin
    have : Eqm p (w - sumN A.length (fun k => if k = i then 0 else u k * t k)) (0 - 0) := Eqm.sub hw hs
    exact (Eqm.of_eq (by simp only [w]; grind)).trans (this.trans (Eqm.of_eq (by simp)))
  · exact ho i hi hin
/-- What is known of the rows and the columns of their first elements, behind the columns below c. -/
structure RrefP (p : Int) (C c : Nat) (s : List (List Int) × List Int) : Prop where
  zero : ∀ i, s.2.length ≤ i → i < s.1.length → ∀ j, j < c → elm (grp s.1 i) j = 0
  lt : ∀ k, k < s.2.length → 0 ≤ rd s.2 (k : Int) ∧ rd s.2 (k : Int) < (c : Int)
  incr : ∀ k l, k < l → l < s.2.length → rd s.2 (k : Int) < rd s.2 (l : Int)
  delta : ∀ k, k < s.2.length → ∀ i, i < s.1.length → elm (grp s.1 i) (rd s.2 (k : Int)).toNat = if i = k then 1 else 0
  left : ∀ k, k < s.2.length → ∀ j, j < (rd s.2 (k : Int)).toNat → elm (grp s.1 k) j = 0
theorem elm_range {p : Int} {C : Nat} {A : List (List Int)} (hp : 2 ≤ p) (h : MatP p C A) (i j : Nat) (hi : i < A.length) : 0 ≤ elm (grp A i) j ∧ elm (grp A i) j ≤ p - 1 := (h i hi).2 j
theorem rd_snoc (l : List Int) (x : Int) (k : Nat) : rd (l ++ [x]) (k : Int) = if k < l.length then rd l (k : Int) else if k = l.length then x else 0 := by
  rw [rd_cast, rd_cast, List.getD_eq_getElem?_getD, List.getD_eq_getElem?_getD]
  by_cases h : k < l.length
  · rw [if_pos h, List.getElem?_append_left h]
  · rw [if_neg h, List.getElem?_append_right (by omega)]
    by_cases h2 : k = l.length
    · rw [if_pos h2, h2]; simp
    · rw [if_neg h2, List.getElem?_eq_none (by simp; omega)]; rfl
theorem rref_step {p : Int} {C c : Nat} {s : List (List Int) × List Int} (hpr : primeB p = true) (hE : EchP p C s) (hR : RrefP p C c s) : RrefP p C (c + 1) (stepB p s c) := by
  have hp := primeB_range hpr
  have hE2 := step_ech hp.1 hE c
  obtain ⟨g1, g2, g3, g4⟩ := findN_le (rows := s.1) (c := c) (s.1.length - s.2.length) s.2.length (by have := hE.le; omega)
  by_cases ha : findN s.1 c s.2.length < s.1.length
  · obtain ⟨hS, hP, hle⟩ := step_found hp.1 hE ha
    have hlen := step_length p s c
    have hn : s.2.length < s.1.length := by omega
    have hx := inv_eqm hpr ((hE.mat _ ha).2 c) (g3 ha)
    have one : (1 : Int) ≤ p - 1 := by omega
    have rng : ∀ i j, i < s.1.length → 0 ≤ elm (grp (stepB p s c).1 i) j ∧ elm (grp (stepB p s c).1 i) j ≤ p - 1 := fun i j hi => elm_range hp.1 hE2.mat i j (by rw [hlen]; exact hi)
    -- row n: 0 ahead of c, 1 at c
    have hn0 : ∀ j, j < c → elm (grp (stepB p s c).1 s.2.length) j = 0 := fun j hj => by
      refine Eqm.eq_of ((hS.at_n j).trans ?_) (rng _ _ hn) (by omega)
      rw [hR.zero _ hle ha j hj]
      exact Eqm.of_eq (by simp)
    have hn1 : elm (grp (stepB p s c).1 s.2.length) c = 1 := Eqm.eq_of ((hS.at_n c).trans hx) (rng _ _ hn) (by omega)
    -- the others
    have ho : ∀ i, i < s.1.length → i ≠ s.2.length → ∀ j, j < c → elm (grp (stepB p s c).1 i) j = elm (grp s.1 (if i = findN s.1 c s.2.length then s.2.length else i)) j := fun i hi hin j hj => by
      have hi2 : (if i = findN s.1 c s.2.length then s.2.length else i) < s.1.length := by split <;> omega
      refine Eqm.eq_of ((hS.other i hi hin j).trans ?_) (rng _ _ hi) (elm_range hp.1 hE.mat _ _ hi2)
      rw [hn0 j hj]
      exact Eqm.of_eq (by simp)
    have hoc : ∀ i, i < s.1.length → i ≠ s.2.length → elm (grp (stepB p s c).1 i) c = 0 := fun i hi hin => by
      refine Eqm.eq_of ((hS.other i hi hin c).trans ?_) (rng _ _ hi) (by omega)
      rw [hn1]
      exact (Eqm.of_eq (by grind)).trans (Eqm.p_ p)
    have hps : ∀ k : Nat, rd (stepB p s c).2 (k : Int) = if k < s.2.length then rd s.2 (k : Int) else if k = s.2.length then (c : Int) else 0 := fun k => by rw [hP]; exact rd_snoc _ _ _
    have hpl : (stepB p s c).2.length = s.2.length + 1 := by rw [hP]; simp
    refine ⟨fun i h1 h2 j hj => ?_, fun k hk => ?_, fun k l hkl hl => ?_, fun k hk i hi => ?_, fun k hk j hj => ?_⟩
    · rw [hpl] at h1
      rw [hlen] at h2
      by_cases hjc : j = c
      · rw [hjc]; exact hoc i h2 (by omega)
      · rw [ho i h2 (by omega) j (by omega)]
        exact hR.zero _ (by split <;> omega) (by split <;> omega) j (by omega)
    · rw [hpl] at hk
      rw [hps]
      by_cases hk2 : k < s.2.length
      · rw [if_pos hk2]; have := hR.lt k hk2; omega
      · rw [if_neg hk2, if_pos (by omega)]; omega
    · rw [hpl] at hl
      rw [hps, hps, if_pos (by omega)]
      by_cases hl2 : l < s.2.length
      · rw [if_pos hl2]; exact hR.incr k l hkl hl2
      · rw [if_neg hl2, if_pos (by omega)]; exact (hR.lt k (by omega)).2
    · rw [hpl] at hk
      rw [hlen] at hi
      rw [hps]
      by_cases hk2 : k < s.2.length
      · have hl := hR.lt k hk2
        rw [if_pos hk2]
        by_cases hin : i = s.2.length
        · rw [hin, hn0 _ (by omega), if_neg (by omega)]
        · rw [ho i hi hin _ (by omega), hR.delta k hk2 _ (by split <;> omega)]
          by_cases hia : i = findN s.1 c s.2.length
          · rw [if_pos hia, if_neg (by omega), if_neg (by omega)]
          · rw [if_neg hia]
      · rw [if_neg hk2, if_pos (by omega), Int.toNat_natCast]
        by_cases hin : i = s.2.length
        · rw [if_pos (by omega), hin]; exact hn1
        · rw [if_neg (by omega)]; exact hoc i hi hin
    · rw [hpl] at hk
      rw [hps] at hj
      by_cases hk2 : k < s.2.length
      · rw [if_pos hk2] at hj
        have hl := hR.lt k hk2
        rw [ho k (by omega) (by omega) j (by omega), if_neg (by omega)]
        exact hR.left k hk2 j hj
      · rw [if_neg hk2, if_pos (by omega), Int.toNat_natCast] at hj
        rw [show k = s.2.length by omega]
        exact hn0 j hj
  · have e : stepB p s c = s := by unfold stepB; rw [if_neg ha]
    rw [e]
    refine ⟨fun i h1 h2 j hj => ?_, fun k hk => by have := hR.lt k hk; omega, hR.incr, hR.delta, hR.left⟩
    by_cases hjc : j = c
    · rw [hjc]; exact g4 i h1 (by omega)
    · exact hR.zero i h1 h2 j (by omega)
theorem rref_fold {p : Int} {C : Nat} (hpr : primeB p = true) : ∀ (d c : Nat) (s : List (List Int) × List Int), EchP p C s → RrefP p C c s → RrefP p C (c + d) ((List.range' c d).foldl (stepB p) s) := by
  intro d
  induction d with
  | zero => intro c s _ h; exact h
  | succ d ih =>
    intro c s hE hR
    rw [List.range'_succ, List.foldl_cons]
    have := ih (c + 1) _ (step_ech (primeB_range hpr).1 hE c) (rref_step hpr hE hR)
    rwa [show c + 1 + d = c + (d + 1) by omega] at this
theorem rref_start (p : Int) (C : Nat) (rows : List (List Int)) : RrefP p C 0 (rows, []) :=
  ⟨fun i _ _ j hj => by omega, fun k hk => by simp at hk, fun k l _ hl => by simp at hl, fun k hk => by simp at hk, fun k hk => by simp at hk⟩
theorem full_rref {p : Int} {C : Nat} {rows : List (List Int)} (hpr : primeB p = true) (hM : MatP p C rows) (hl : rows.length ≤ 1000) : RrefP p C C (fullB p C rows) := by
  have := rref_fold hpr C 0 (rows, []) ⟨hM, Nat.zero_le _, hl⟩ (rref_start p C rows)
  rw [Nat.zero_add, ← List.range_eq_range'] at this
  exact this
theorem ind_fold {p : Int} {C : Nat} (hpr : primeB p = true) : ∀ (l : List Nat) (s : List (List Int) × List Int), EchP p C s → IndP p C s.1 → IndP p C (l.foldl (stepB p) s).1 := by
  intro l
  induction l with
  | nil => intro s _ h; exact h
  | cons c l ih =>
    intro s hE hI
    refine ih _ (step_ech (primeB_range hpr).1 hE c) ?_
    by_cases ha : findN s.1 c s.2.length < s.1.length
    · obtain ⟨hS, _, hle⟩ := step_found (primeB_range hpr).1 hE ha
      obtain ⟨g1, g2, g3, g4⟩ := findN_le (rows := s.1) (c := c) (s.1.length - s.2.length) s.2.length (by have := hE.le; omega)
      exact ind_step hS (by omega) ha (inv_eqm hpr ((hE.mat _ ha).2 c) (g3 ha)) hI
    · unfold stepB; rw [if_neg ha]; exact hI
end Go.Proofs.Ytjpbemomocccaaa.P

namespace Go.Proofs.Ytjpbemomocccaaa.P
open Go.RowKit Go.Proofs.YtjpbemomocccaaaW.PrintWords Go.Proofs.YtjpbemomocccaaaW.PrintLast Go.Proofs.YtjpbemomocccaaaW.PrintMore
attribute [local go_sem] max2_int min2_int max_two min_two max_three min_three max_four min_four
set_option linter.unusedVariables false
set_option linter.unusedSimpArgs false

/-! ### slices_Index_int_int: function 113 -/
end Go.Proofs.Ytjpbemomocccaaa.P

namespace Go.Proofs.Ytjpbemomocccaaa.P
open Go.RowKit Go.Proofs.YtjpbemomocccaaaW.PrintWords Go.Proofs.YtjpbemomocccaaaW.PrintLast Go.Proofs.YtjpbemomocccaaaW.PrintMore
attribute [local go_sem] max2_int min2_int max_two min_two max_three min_three max_four min_four
set_option linter.unusedVariables false
set_option linter.unusedSimpArgs false

/-! ### spec_l00Has: function 96 -/
end Go.Proofs.Ytjpbemomocccaaa.P

namespace Go.Proofs.Ytjpbemomocccaaa.P
open Go.RowKit Go.Proofs.YtjpbemomocccaaaW.PrintWords Go.Proofs.YtjpbemomocccaaaW.PrintLast Go.Proofs.YtjpbemomocccaaaW.PrintMore
attribute [local go_sem] max2_int min2_int max_two min_two max_three min_three max_four min_four
set_option linter.unusedVariables false
set_option linter.unusedSimpArgs false

/-! ### spec_l03Kernel: function 56 -/
end Go.Proofs.Ytjpbemomocccaaa.P

namespace Go.Proofs.Ytjpbemomocccaaa.P
open Go.RowKit Go.Proofs.YtjpbemomocccaaaW.PrintWords Go.Proofs.YtjpbemomocccaaaW.PrintLast Go.Proofs.YtjpbemomocccaaaW.PrintMore
attribute [local go_sem] max2_int min2_int max_two min_two max_three min_three max_four min_four
set_option linter.unusedVariables false
set_option linter.unusedSimpArgs false

/-! ### spec_KernelOf: function 19 -/
end Go.Proofs.Ytjpbemomocccaaa.P

namespace Go.Proofs.Ytjpbemomocccaaa.P
open Go.RowKit Go.Proofs.YtjpbemomocccaaaW.PrintWords Go.Proofs.YtjpbemomocccaaaW.PrintLast Go.Proofs.YtjpbemomocccaaaW.PrintMore
attribute [local go_sem] max2_int min2_int max_two min_two max_three min_three max_four min_four
set_option linter.unusedVariables false
set_option linter.unusedSimpArgs false

/-! ### slices_Contains_int_int: function 97 -/
end Go.Proofs.Ytjpbemomocccaaa.P

namespace Go.Proofs.Ytjpbemomocccaaa.P
open Go.RowKit Go.Proofs.YtjpbemomocccaaaW.PrintWords Go.Proofs.YtjpbemomocccaaaW.PrintLast Go.Proofs.YtjpbemomocccaaaW.PrintMore
attribute [local go_sem] max2_int min2_int max_two min_two max_three min_three max_four min_four
set_option linter.unusedVariables false
set_option linter.unusedSimpArgs false

/-! ### impl_Matrix_kernel: function 58 -/
end Go.Proofs.Ytjpbemomocccaaa.P

namespace Go.Proofs.Ytjpbemomocccaaa.P
open Go.RowKit Go.Proofs.YtjpbemomocccaaaW.PrintWords Go.Proofs.YtjpbemomocccaaaW.PrintLast Go.Proofs.YtjpbemomocccaaaW.PrintMore
attribute [local go_sem] max2_int min2_int max_two min_two max_three min_three max_four min_four
set_option linter.unusedVariables false
set_option linter.unusedSimpArgs false

/-! ### impl_KernelOf: function 20 -/
end Go.Proofs.Ytjpbemomocccaaa.P

namespace Go.Proofs.Ytjpbemomocccaaa.P
open Go.RowKit Go.Proofs.YtjpbemomocccaaaW.PrintWords Go.Proofs.YtjpbemomocccaaaW.PrintLast Go.Proofs.YtjpbemomocccaaaW.PrintMore
attribute [local go_sem] max2_int min2_int max_two min_two max_three min_three max_four min_four
set_option linter.unusedVariables false
set_option linter.unusedSimpArgs false

theorem RowP_set {p : Int} {C n : Nat} {r : List Int} {v : Int} (h : RowP p C r) (hn : n < C) (hv : 0 ≤ v ∧ v ≤ p - 1) : RowP p C (r.set n v) := by
  refine ⟨by rw [List.length_set]; exact h.1, fun j => ?_⟩
  rw [getD_set _ _ _ _ _ (by rw [h.1]; exact hn)]
  split
  · exact hv
  · exact h.2 j
theorem RowP_zero {p : Int} (hp : 2 ≤ p) (C : Nat) : RowP p C (List.replicate C 0) := by
  refine ⟨by simp, fun j => ?_⟩
  have : (List.replicate C (0 : Int)).getD j 0 = 0 := by
    rw [List.getD_eq_getElem?_getD, List.getElem?_replicate]
    split <;> rfl
  rw [this]; omega
end Go.Proofs.Ytjpbemomocccaaa.P

namespace Go.Proofs.Ytjpbemomocccaaa.P
open Go.RowKit Go.Proofs.YtjpbemomocccaaaW.PrintWords Go.Proofs.YtjpbemomocccaaaW.PrintLast Go.Proofs.YtjpbemomocccaaaW.PrintMore
attribute [local go_sem] max2_int min2_int max_two min_two max_three min_three max_four min_four
set_option linter.unusedVariables false
set_option linter.unusedSimpArgs false

theorem getD_take {α : Type} (l : List α) (n j : Nat) (d : α) : (l.take n).getD j d = if j < n then l.getD j d else d := by
  rw [List.getD_eq_getElem?_getD, List.getElem?_take]
  split
  · rw [List.getD_eq_getElem?_getD]
  · rfl
theorem getD_append {α : Type} (a b : List α) (j : Nat) (d : α) : (a ++ b).getD j d = if j < a.length then a.getD j d else b.getD (j - a.length) d := by
  rw [List.getD_eq_getElem?_getD]
  split
  · rename_i h; rw [List.getElem?_append_left h, List.getD_eq_getElem?_getD]
  · rename_i h; rw [List.getElem?_append_right (by omega), List.getD_eq_getElem?_getD]
theorem getD_drop {α : Type} (l : List α) (n j : Nat) (d : α) : (l.drop n).getD j d = l.getD (n + j) d := by
  rw [List.getD_eq_getElem?_getD, List.getElem?_drop, List.getD_eq_getElem?_getD]
/-- The first n columns. -/
def cutC (n : Nat) (A : List (List Int)) : List (List Int) := A.map (·.take n)
theorem cutC_grp (n : Nat) (A : List (List Int)) (i : Nat) : grp (cutC n A) i = (grp A i).take n := by
  unfold cutC grp
  rw [List.getD_eq_getElem?_getD, List.getElem?_map, List.getD_eq_getElem?_getD]
  cases A[i]? <;> simp
theorem cutC_length (n : Nat) (A : List (List Int)) : (cutC n A).length = A.length := by simp [cutC]
theorem grp_ext {A B : List (List Int)} (hl : A.length = B.length) (h : ∀ i, i < A.length → grp A i = grp B i) : A = B := list_eq_getD [] hl h
theorem findN_cut {A : List (List Int)} {c n : Nat} (hc : c < n) : ∀ (d a : Nat), a + d = A.length → findN (cutC n A) c a = findN A c a := by
  intro d
  induction d with
  | zero => intro a ha; rw [findN_end (by rw [cutC_length]; omega), findN_end (by omega)]
  | succ d ih =>
    intro a ha
    have e : (grp (cutC n A) a).getD c 0 = (grp A a).getD c 0 := by rw [cutC_grp, getD_take, if_pos hc]
    by_cases h : (grp A a).getD c 0 = 0
    · rw [findN_next (by rw [cutC_length]; omega) (by rw [e]; exact h), findN_next (by omega) h, ih (a + 1) (by omega)]
    · rw [findN_here (by rw [cutC_length]; omega) (by rw [e]; exact h), findN_here (by omega) h]
theorem timesB_cut (p b : Int) (r : List Int) (n : Nat) : timesB p b (r.take n) = (timesB p b r).take n := by
  refine list_eq_getD 0 (by simp [timesB]) fun j hj => ?_
  have hj2 : j < n ∧ j < r.length := by simp [timesB] at hj; omega
  rw [getD_take, if_pos hj2.1]
  unfold timesB
  rw [getD_map _ _ _ _ (by simp; omega), getD_map _ _ _ _ hj2.2, getD_take, if_pos hj2.1]
theorem addB_cut (p t : Int) (r s : List Int) (n : Nat) : addB p (r.take n) (s.take n) t = (addB p r s t).take n := by
  refine list_eq_getD 0 (by simp [addB]) fun j hj => ?_
  have hj2 : j < n ∧ j < r.length := by simp [addB] at hj; omega
  rw [getD_take, if_pos hj2.1]
  unfold addB
  rw [getD_map _ _ _ _ (by simp; omega), getD_map _ _ _ _ hj2.2, getD_take, if_pos hj2.1, getD_take, if_pos hj2.1]
theorem cutC_set (n : Nat) (A : List (List Int)) (i : Nat) (R : List Int) : cutC n (A.set i R) = (cutC n A).set i (R.take n) := by
  unfold cutC
  rw [List.map_set]
theorem cutC_swap (n : Nat) (A : List (List Int)) (i j : Nat) : cutC n (swapB A i j) = swapB (cutC n A) i j := by
  unfold swapB
  rw [cutC_set, cutC_set]
  rw [rdL_cast, rdL_cast, rdL_cast, rdL_cast, cutC_grp, cutC_grp]
theorem step_cut {p : Int} {C n c : Nat} {s : List (List Int) × List Int} (hE : EchP p C s) (hc : c < n) : stepB p (cutC n s.1, s.2) c = (cutC n (stepB p s c).1, (stepB p s c).2) := by
  have hf := findN_cut (A := s.1) hc (s.1.length - s.2.length) s.2.length (by have := hE.le; omega)
  unfold stepB
  simp only [hf, cutC_length]
  by_cases ha : findN s.1 c s.2.length < s.1.length
  · have hle := (findN_le (rows := s.1) (c := c) (s.1.length - s.2.length) s.2.length (by have := hE.le; omega)).1
    have hn : s.2.length < s.1.length := by omega
    rw [if_pos ha, if_pos ha]
    refine Prod.ext ?_ rfl
    show elimB _ _ _ _ = cutC n (elimB _ _ _ _)
    have hmid : ((swapB (cutC n s.1) s.2.length (findN s.1 c s.2.length)).set s.2.length (timesB p (invB p ((grp (cutC n s.1) (findN s.1 c s.2.length)).getD c 0)) (grp (cutC n s.1) (findN s.1 c s.2.length)))) = cutC n ((swapB s.1 s.2.length (findN s.1 c s.2.length)).set s.2.length (timesB p (invB p ((grp s.1 (findN s.1 c s.2.length)).getD c 0)) (grp s.1 (findN s.1 c s.2.length)))) := by
      rw [cutC_set, cutC_swap, ← timesB_cut, cutC_grp, getD_take, if_pos hc]
    rw [hmid]
    refine grp_ext (by simp [elimB_length, cutC_length]) fun i hi => ?_
    rw [elimB_length, cutC_length] at hi
    rw [cutC_grp, elimB_grp (by rw [cutC_length]; exact hi), elimB_grp hi, cutC_grp, cutC_grp, getD_take, if_pos hc]
    split
    · rfl
    · exact addB_cut _ _ _ _ _
  · rw [if_neg ha, if_neg ha]
theorem fold_cut {p : Int} {C n : Nat} (hp : 2 ≤ p) : ∀ (l : List Nat) (s : List (List Int) × List Int), EchP p C s → (∀ c ∈ l, c < n) → l.foldl (stepB p) (cutC n s.1, s.2) = (cutC n (l.foldl (stepB p) s).1, (l.foldl (stepB p) s).2) := by
  intro l
  induction l with
  | nil => intro s _ _; rfl
  | cons c l ih =>
    intro s hE hl
    rw [List.foldl_cons, List.foldl_cons, step_cut hE (hl c (List.mem_cons_self ..))]
    exact ih _ (step_ech hp hE c) fun c' hc' => hl c' (List.mem_cons_of_mem _ hc')
theorem fold_more {p : Int} : ∀ (l : List Nat) (s : List (List Int) × List Int), ∃ rest, (l.foldl (stepB p) s).2 = s.2 ++ rest ∧ ∀ x ∈ rest, ∃ c ∈ l, x = (c : Int) := by
  intro l
  induction l with
  | nil => intro s; exact ⟨[], by simp, by simp⟩
  | cons c l ih =>
    intro s
    obtain ⟨rest, h1, h2⟩ := ih (stepB p s c)
    rw [List.foldl_cons]
    have : ∃ r0, (stepB p s c).2 = s.2 ++ r0 ∧ ∀ x ∈ r0, x = (c : Int) := by
      unfold stepB
      split
      · exact ⟨[(c : Int)], rfl, by simp⟩
      · exact ⟨[], by simp, by simp⟩
    obtain ⟨r0, h3, h4⟩ := this
    refine ⟨r0 ++ rest, by rw [h1, h3, List.append_assoc], fun x hx => ?_⟩
    rcases List.mem_append.mp hx with hx | hx
    · exact ⟨c, List.mem_cons_self .., h4 x hx⟩
    · obtain ⟨c', hc', e⟩ := h2 x hx
      exact ⟨c', List.mem_cons_of_mem _ hc', e⟩
def unitB (n i : Nat) : List Int := (List.replicate n 0).set i 1
theorem unitB_getD {n i j : Nat} (hi : i < n) : (unitB n i).getD j 0 = if j = i then 1 else 0 := by
  unfold unitB
  rw [getD_set _ _ _ _ _ (by simpa using hi)]
  split
  · rfl
  · rw [List.getD_eq_getElem?_getD, List.getElem?_replicate]; split <;> rfl
def wideB (n : Nat) (rows : List (List Int)) : List (List Int) := (List.range rows.length).map fun i => grp rows i ++ unitB n i
theorem wideB_length (n : Nat) (rows : List (List Int)) : (wideB n rows).length = rows.length := by simp [wideB]
theorem wideB_grp {n : Nat} {rows : List (List Int)} {i : Nat} (hi : i < rows.length) : grp (wideB n rows) i = grp rows i ++ unitB n i := by
  unfold wideB
  show ((List.range rows.length).map _).getD i [] = _
  rw [getD_map _ _ _ _ hi]
theorem RowP_append {p : Int} {C D : Nat} {r s : List Int} (h : RowP p C r) (h2 : RowP p D s) : RowP p (C + D) (r ++ s) := by
  refine ⟨by rw [List.length_append, h.1, h2.1], fun j => ?_⟩
  rw [getD_append]
  split
  · exact h.2 j
  · exact h2.2 _
theorem wideB_mat {p : Int} {n : Nat} {rows : List (List Int)} (hp : 2 ≤ p) (hM : MatP p n rows) (hl : rows.length = n) : MatP p (n + n) (wideB n rows) := by
  intro i hi
  rw [wideB_length] at hi
  rw [wideB_grp hi]
  exact RowP_append (hM i hi) (RowP_set (RowP_zero hp n) (by omega) (by omega))
theorem wideB_cut {p : Int} {n : Nat} {rows : List (List Int)} (hM : MatP p n rows) : cutC n (wideB n rows) = rows := by
  refine grp_ext (by rw [cutC_length, wideB_length]) fun i hi => ?_
  rw [cutC_length, wideB_length] at hi
  rw [cutC_grp, wideB_grp hi, List.take_append_of_le_length (by rw [(hM i hi).1]; exact Nat.le_refl _), List.take_of_length_le (by rw [(hM i hi).1]; exact Nat.le_refl _)]
theorem wideB_ind {p : Int} {n : Nat} {rows : List (List Int)} (hM : MatP p n rows) (hl : rows.length = n) : IndP p (n + n) (wideB n rows) := by
  intro u hu i hi
  rw [wideB_length] at hi
  have h := hu (n + i) (by omega)
  rw [wideB_length, sumN_apart hi] at h
  have e : ∀ k, k < rows.length → elm (grp (wideB n rows) k) (n + i) = if i = k then 1 else 0 := fun k hk => by
    unfold elm
    rw [wideB_grp hk, getD_append, if_neg (by rw [(hM k hk).1]; omega), (hM k hk).1, Nat.add_sub_cancel_left, unitB_getD (by omega)]
  have e0 : sumN rows.length (fun k => if k = i then 0 else u k * elm (grp (wideB n rows) k) (n + i)) = 0 := sumN_zero fun k hk => by
    by_cases h1 : k = i
    · rw [if_pos h1]
    · rw [if_neg h1, e k hk, if_neg (Ne.symm h1)]; simp
  rw [e0, e i hi, if_pos rfl] at h
  exact (Eqm.of_eq (by grind)).trans h
theorem wide_split (p : Int) {n : Nat} (rows : List (List Int)) : fullB p (n + n) (wideB n rows) = (List.range' n n).foldl (stepB p) ((List.range n).foldl (stepB p) (wideB n rows, [])) := by
  unfold fullB
  rw [← List.foldl_append, List.range_eq_range', List.range_eq_range', show List.range' 0 n ++ List.range' n n = List.range' 0 (n + n) from by
    have := List.range'_append (s := 0) (m := n) (n := n) (step := 1)
    simpa using this]
theorem incr_all {s : List Int} {n : Nat} (hl : s.length = n) (hlt : ∀ k, k < s.length → 0 ≤ rd s (k : Int) ∧ rd s (k : Int) < (n : Int)) (hin : ∀ k l, k < l → l < s.length → rd s (k : Int) < rd s (l : Int)) : ∀ i, i < n → rd s (i : Int) = i := by
  have up : ∀ i, i < n → (i : Int) ≤ rd s (i : Int) := by
    intro i
    induction i with
    | zero => intro h; exact (hlt 0 (by omega)).1
    | succ i ih =>
      intro h
      have h1 := ih (by omega)
      have h2 := hin i (i + 1) (by omega) (by omega)
      omega
  have dn : ∀ d i, i + d + 1 = n → rd s (i : Int) ≤ i := by
    intro d
    induction d with
    | zero => intro i h; have := (hlt i (by omega)).2; omega
    | succ d ih =>
      intro i h
      have h1 := ih (i + 1) (by omega)
      have h2 := hin i (i + 1) (by omega) (by omega)
      omega
  intro i hi
  have h1 := up i hi
  have h2 := dn (n - i - 1) i (by omega)
  omega
/-- The wide matrix' first columns are all of m's, just where m's rank is full. -/
theorem wide_piv {p : Int} {n : Nat} {rows : List (List Int)} (hpr : primeB p = true) (hM : MatP p n rows) (hl : rows.length = n) (hn : n ≤ 500) :
    (echB p (n + n) (wideB n rows)).2.length = n ∧ ((echB p n rows).2.length = n → ∀ i, i < n → rd (echB p (n + n) (wideB n rows)).2 (i : Int) = i) ∧ ((echB p n rows).2.length ≠ n → ∃ i, i < n ∧ rd (echB p (n + n) (wideB n rows)).2 (i : Int) ≠ i) := by
  have hp := primeB_range hpr
  have hW := wideB_mat hp.1 hM hl
  have hWl := wideB_length n rows
  have hE0 : EchP p (n + n) (wideB n rows, []) := ⟨hW, Nat.zero_le _, by show (wideB n rows).length ≤ 1000; omega⟩
  obtain ⟨hEn, hEnl⟩ := fold_ech hp.1 (List.range n) _ hE0
  have hcut := fold_cut hp.1 (List.range n) _ hE0 (fun c hc => List.mem_range.mp hc)
  simp only [wideB_cut hM] at hcut
  have hpiv : (fullB p n rows).2 = ((List.range n).foldl (stepB p) (wideB n rows, [])).2 := by
    have := congrArg Prod.snd hcut
    unfold fullB
    exact this
  have hsplit := wide_split p (n := n) rows
  obtain ⟨hF, hFl⟩ := full_ech hp.1 hW (by omega)
  have hR := full_rref hpr hW (by omega)
  obtain ⟨rest, hr1, hr2⟩ := fold_more (p := p) (List.range' n n) ((List.range n).foldl (stepB p) (wideB n rows, []))
  rw [← hsplit, ← hpiv] at hr1
  have hq : (fullB p (n + n) (wideB n rows)).2.length = n := by
    have hle := hF.le
    rcases Nat.lt_or_ge (fullB p (n + n) (wideB n rows)).2.length n with hlt | hge
    · exfalso
      have hI := ind_fold hpr (List.range (n + n)) _ hE0 (wideB_ind hM hl)
      have hz := hI (fun i => if i = (fullB p (n + n) (wideB n rows)).2.length then 1 else 0) (fun j hj => by
        have e : sumN ((List.range (n + n)).foldl (stepB p) (wideB n rows, [])).1.length (fun i => (if i = (fullB p (n + n) (wideB n rows)).2.length then 1 else 0) * elm (grp ((List.range (n + n)).foldl (stepB p) (wideB n rows, [])).1 i) j) = 0 := sumN_zero fun i hi => by
          by_cases h1 : i = (fullB p (n + n) (wideB n rows)).2.length
          · rw [if_pos h1, h1]
            have := hR.zero _ (Nat.le_refl _) (by omega) j hj
            unfold fullB at this ⊢
            rw [this]; rfl
          · rw [if_neg h1]; simp
        rw [e]; exact Eqm.rfl_ _ _) (fullB p (n + n) (wideB n rows)).2.length (by
          show _ < (fullB p (n + n) (wideB n rows)).1.length; omega)
      simp only [if_pos trivial] at hz
      have := Eqm.eq_of hz (by omega) (by omega)
      omega
    · omega
  refine ⟨hq, fun hf i hi => ?_, fun hf => ?_⟩
  · have h1 : (fullB p n rows).2.length = n := hf
    have hrest : rest = [] := by
      have := congrArg List.length hr1
      rw [hq, List.length_append, h1] at this
      exact List.length_eq_zero_iff.mp (by omega)
    have hRn := full_rref hpr hM (by omega)
    have := incr_all h1 hRn.lt hRn.incr i hi
    show rd (fullB p (n + n) (wideB n rows)).2 (i : Int) = i
    rw [hr1, hrest, List.append_nil]
    exact this
  · have h1 : (fullB p n rows).2.length ≠ n := hf
    have h2 := (full_ech hp.1 hM (by omega)).1.le
    have h3 := (full_ech hp.1 hM (by omega)).2
    refine ⟨(fullB p n rows).2.length, by omega, fun e => ?_⟩
    have e2 : rd (fullB p (n + n) (wideB n rows)).2 ((fullB p n rows).2.length : Int) = ((fullB p n rows).2.length : Int) := e
    have hrl : 0 < rest.length := by
      have := congrArg List.length hr1
      rw [hq, List.length_append] at this
      omega
    have hx : rd (fullB p (n + n) (wideB n rows)).2 ((fullB p n rows).2.length : Int) = rest[0] := by
      rw [hr1, rd_cast, getD_append, if_neg (by omega), Nat.sub_self, List.getD_eq_getElem?_getD, List.getElem?_eq_getElem hrl]; rfl
    obtain ⟨c, hc, hc2⟩ := hr2 rest[0] (List.getElem_mem hrl)
    have := List.mem_range'_1.mp hc
    omega

end Go.Proofs.Ytjpbemomocccaaa.P

namespace Go.Proofs.Ytjpbemomocccaaa.P
open Go.RowKit Go.Proofs.YtjpbemomocccaaaW.PrintWords Go.Proofs.YtjpbemomocccaaaW.PrintLast Go.Proofs.YtjpbemomocccaaaW.PrintMore
attribute [local go_sem] max2_int min2_int max_two min_two max_three min_three max_four min_four
set_option linter.unusedVariables false
set_option linter.unusedSimpArgs false

def unitM (n : Nat) : List (List Int) := (List.range n).map (unitB n)
theorem unitM_length (n : Nat) : (unitM n).length = n := by simp [unitM]
theorem unitM_grp {n i : Nat} (hi : i < n) : grp (unitM n) i = unitB n i := by
  unfold unitM grp
  exact getD_map _ _ _ _ hi
theorem unitB_length (n i : Nat) : (unitB n i).length = n := by simp [unitB]
/-- The rows with cols' columns beside them. -/
def besideB (rows cols : List (List Int)) : List (List Int) := (List.range rows.length).map fun i => grp rows i ++ (List.range cols.length).map fun j => (grp cols j).getD i 0
theorem beside_unit {n : Nat} {rows : List (List Int)} (hl : rows.length = n) : besideB rows (unitM n) = wideB n rows := by
  unfold besideB wideB
  refine List.map_congr_left fun i hi => ?_
  have hin : i < n := by have := List.mem_range.mp hi; omega
  congr 1
  refine list_eq_getD 0 (by simp [unitM_length, unitB_length]) fun j hj => ?_
  have hjn : j < n := by simpa [unitM_length] using hj
  rw [getD_map _ _ _ _ (by rw [unitM_length]; exact hjn), unitM_grp hjn, unitB_getD hjn, unitB_getD hin]
  by_cases h : i = j
  · rw [if_pos h, if_pos h.symm]
  · rw [if_neg h, if_neg (Ne.symm h)]
theorem spec_l03Unit_ev (p : Int) (n : Nat) (hn : n ≤ 1000) : Ev (fun k => spec_l03Unit.f k p (n : Int)) (p, (n : Int), unitM n) := by
  unfold spec_l03Unit.f
  refine build_ev (l := fun k i acc => spec_l03Unit.l0 k (n : Int) i p (n : Int) acc) n (unitB n) (fun i acc hi ha r hr2 => ?_) ?_
  · refine Ev.step (fun k => ?_) hr2
    simp only [spec_l03Unit.l0]
    rw [if_pos (by omega), if_pos (by omega), if_pos (by omega), wr (by omega) (by omega)]
    simp only [Option.bind_some, List.length_replicate, Int.toNat_natCast, if_pos (show (0 : Int) ≤ (i : Int) by omega), if_pos (show (i : Int) < (n : Int) by omega), if_pos (show acc.length < 5864062014805 by omega)]
    rfl
  · refine Ev.step (f := fun _ => some (p, (n : Int), unitM n)) (fun k => ?_) (Ev.now _)
    simp only [spec_l03Unit.l0]
    rw [if_neg (by omega)]; rfl
theorem spec_beside_go {p a b c : Int} {rows cols acc : List (List Int)} {i : Nat} {r : Int × Int × List (List Int)} (hc : cols.length ≤ 1000) (hi : i < rows.length) (hrl : rows.length ≤ 1000) (hcl : ∀ j, j < cols.length → rows.length ≤ (grp cols j).length) (hrow : (grp rows i).length ≤ 1000) (hacc : acc.length = i)
    (h : Ev (fun k => spec_l03Beside.l0 k cols ((i + 1 : Nat) : Int) p a rows b c (acc ++ [grp rows i ++ (List.range cols.length).map fun j => (grp cols j).getD i 0])) r) :
    Ev (fun k => spec_l03Beside.l1 k cols (i : Int) (grp rows i) 0 p a rows b c acc) r := by
  have key : ∀ d j : Nat, j + d = cols.length → Ev (fun k => spec_l03Beside.l1 k cols (i : Int) (grp rows i ++ (List.range j).map fun j => (grp cols j).getD i 0) (j : Int) p a rows b c acc) r := by
    intro d
    induction d with
    | zero =>
      intro j hj
      obtain rfl : j = cols.length := by omega
      refine Ev.step (fun k => ?_) h
      simp only [spec_l03Beside.l1]
      rw [if_neg (by omega), if_pos (by omega), wr (by omega) (by omega)]
      rfl
    | succ d ih =>
      intro j hj
      have := hcl j (by omega)
      have e : (grp rows i ++ (List.range (j + 1)).map fun j => (grp cols j).getD i 0) = (grp rows i ++ (List.range j).map fun j => (grp cols j).getD i 0) ++ [(grp cols j).getD i 0] := by
        rw [List.range_succ, List.map_append, List.append_assoc]; rfl
      refine Ev.step (fun k => ?_) (ih (j + 1) (by omega))
      simp only [spec_l03Beside.l1]
      rw [if_pos (by omega), if_pos (by omega), if_pos (by omega), rdL_cast, if_pos (by omega), if_pos (by simp only [List.length_append, List.length_map, List.length_range]; omega), rd_cast, wr (by omega) (by omega), e]
      rfl
  have := key cols.length 0 (by omega)
  rw [List.range_zero, List.map_nil, List.append_nil] at this
  exact this
theorem spec_l03Beside_ev {p a : Int} {rows cols : List (List Int)} (ha : 0 ≤ a ∧ a ≤ 1000) (hc : cols.length ≤ 1000) (hrl : rows.length ≤ 1000) (hr : ∀ r ∈ rows, r.length ≤ 1000) (hcl : ∀ j, j < cols.length → rows.length ≤ (grp cols j).length) : Ev (fun k => spec_l03Beside.f k p a rows cols) (p, a + (cols.length : Int), besideB rows cols) := by
  unfold spec_l03Beside.f
  rw [wr (by omega) (by omega)]
  refine build_ev (l := fun k i acc => spec_l03Beside.l0 k cols i p a rows p (a + (cols.length : Int)) acc) rows.length (fun i => grp rows i ++ (List.range cols.length).map fun j => (grp cols j).getD i 0) (fun i acc hi hacc r hr2 => ?_) ?_
  · refine Ev.step (fun k => ?_) (spec_beside_go hc hi hrl hcl (grp_len hr i) hacc hr2)
    simp only [spec_l03Beside.l0]
    rw [if_pos (by omega), if_pos (by omega), rdL_cast, own_eq _ (Nat.le_trans (grp_len hr i) (by omega))]
    rfl
  · refine Ev.step (f := fun _ => some (p, a + (cols.length : Int), besideB rows cols)) (fun k => ?_) (Ev.now _)
    simp only [spec_l03Beside.l0]
    rw [if_neg (by omega)]; rfl
theorem spec_l03Rank_ev {p : Int} {C : Nat} {rows : List (List Int)} (hp : 2 ≤ p ∧ p ≤ 31) (hC : C ≤ 1000) (hM : MatP p C rows) (hl : rows.length ≤ 1000) : Ev (fun k => spec_l03Rank.f k p (C : Int) rows) ((echB p C rows).2.length : Int) := by
  unfold spec_l03Rank.f
  exact Ev.bind (spec_echelon_ev hp hC hM hl) (Ev.now _)
def inverseRowsB (p : Int) (n : Nat) (rows : List (List Int)) : List (List Int) := (List.range (echB p (n + n) (wideB n rows)).1.length).map fun i => (grp (echB p (n + n) (wideB n rows)).1 i).drop n
theorem impl_inverse_out {p a b c : Int} {n : Nat} {E : List (List Int)} {piv : List Int} (hn : n ≤ 1000) (hE : MatP p (n + n) E) (hEl : E.length = n) (hpl : piv.length = n) :
    ((∀ i, i < n → rd piv (i : Int) = i) → Ev (fun k => impl_InverseOf.l1 k (n : Int) piv E (E.length : Int) 0 p (n : Int) []) (p, (n : Int), (List.range E.length).map (fun i => (grp E i).drop n), 0)) ∧
    ((∃ i, i < n ∧ rd piv (i : Int) ≠ i) → Ev (fun k => impl_InverseOf.l1 k (n : Int) piv E (E.length : Int) 0 p (n : Int) []) (0, 0, [], 4)) := by
  refine ⟨fun h => ?_, fun h => ?_⟩
  · refine build_ev (l := fun k i acc => impl_InverseOf.l1 k (n : Int) piv E (E.length : Int) i p (n : Int) acc) E.length (fun i => (grp E i).drop n) (fun i acc hi hacc r hr2 => ?_) ?_
    · have hl := (hE i hi).1
      refine Ev.step (fun k => ?_) hr2
      simp only [impl_InverseOf.l1]
      rw [if_pos (by omega), if_pos (by omega), if_pos (by omega), if_pos (by omega), if_pos (h i (by omega)), if_pos (by omega), rdL_cast, if_pos (by omega), Int.toNat_natCast, clone_eq _ (by rw [List.length_drop]; omega), wr (by omega) (by omega)]
      simp only [Option.bind_some, if_pos (show acc.length < 5864062014805 by omega)]
      rfl
    · refine Ev.step (f := fun _ => some (p, (n : Int), (List.range E.length).map (fun i => (grp E i).drop n), 0)) (fun k => ?_) (Ev.now _)
      simp only [impl_InverseOf.l1]
      rw [if_neg (by omega)]
  · have key : ∀ d i acc, i + d = n → (acc : List (List Int)).length ≤ 1000 + i → (∃ j, i ≤ j ∧ j < n ∧ rd piv (j : Int) ≠ j) → Ev (fun k => impl_InverseOf.l1 k (n : Int) piv E (E.length : Int) (i : Int) p (n : Int) acc) (0, 0, [], 4) := by
      intro d
      induction d with
      | zero => intro i acc hi _ h; obtain ⟨j, h1, h2, _⟩ := h; omega
      | succ d ih =>
        intro i acc hi ha h
        have hl := (hE i (by omega)).1
        by_cases h0 : rd piv (i : Int) = i
        · refine Ev.step (fun k => ?_) (ih (i + 1) (acc ++ [(grp E i).drop n]) (by omega) (by simp; omega) ?_)
          · simp only [impl_InverseOf.l1]
            rw [if_pos (by omega), if_pos (by omega), if_pos (by omega), if_pos (by omega), if_pos h0, if_pos (by omega), rdL_cast, if_pos (by omega), Int.toNat_natCast, clone_eq _ (by rw [List.length_drop]; omega), wr (by omega) (by omega)]
            simp only [Option.bind_some, if_pos (show acc.length < 5864062014805 by omega)]
            rfl
          · obtain ⟨j, h1, h2, h3⟩ := h
            have : j ≠ i := fun e => h3 (by rw [e]; exact h0)
            exact ⟨j, by omega, h2, h3⟩
        · refine Ev.step (f := fun _ => some (0, 0, [], 4)) (fun k => ?_) (Ev.now _)
          simp only [impl_InverseOf.l1]
          rw [if_pos (by omega), if_pos (by omega), if_pos (by omega), if_pos (by omega), if_neg h0]
    obtain ⟨j, h1, h2⟩ := h
    exact key n 0 [] (by omega) (by simp) ⟨j, by omega, h1, h2⟩
theorem spec_inverse_out {p a b q e : Int} {n : Nat} {rows E : List (List Int)} (hn : n ≤ 1000) (hE : MatP p (n + n) E) (hEl : E.length = n) :
    Ev (fun k => spec_InverseOf.l0 k 0 q (n : Int) rows a b E p e []) (p, e, (List.range E.length).map (fun i => (grp E i).drop n), 0) := by
  refine build_ev (l := fun k i acc => spec_InverseOf.l0 k i q (n : Int) rows a b E p e acc) E.length (fun i => (grp E i).drop n) (fun i acc hi hacc r hr2 => ?_) ?_
  · have hl := (hE i hi).1
    refine Ev.step (fun k => ?_) hr2
    simp only [spec_InverseOf.l0]
    rw [if_pos (by omega), if_pos (by omega), if_pos (by omega), rdL_cast, if_pos (by omega), Int.toNat_natCast, own_eq _ (by rw [List.length_drop]; omega), wr (by omega) (by omega)]
    simp only [Option.bind_some, if_pos (show acc.length < 5864062014805 by omega)]
    rfl
  · refine Ev.step (f := fun _ => some (p, e, (List.range E.length).map (fun i => (grp E i).drop n), 0)) (fun k => ?_) (Ev.now _)
    simp only [spec_InverseOf.l0]
    rw [if_neg (by omega)]
def InverseRes (p cols : Int) (rows : List (List Int)) : Int × Int × List (List Int) × Int := if validMB p cols rows then (if (rows.length : Int) = cols then (if ((echB p cols.toNat rows).2.length : Int) = cols then (p, cols, inverseRowsB p cols.toNat rows, 0) else (0, 0, [], 4)) else (0, 0, [], 2)) else (0, 0, [], 1)
theorem prime_of_valid {p cols : Int} {rows : List (List Int)} (h : validMB p cols rows = true) : primeB p = true := by
  unfold validMB at h
  simp only [Bool.and_eq_true] at h
  exact h.1
theorem wide_ech {p : Int} {n : Nat} {rows : List (List Int)} (hp : 2 ≤ p) (hM : MatP p n rows) (hl : rows.length = n) (hn : n ≤ 500) : MatP p (n + n) (echB p (n + n) (wideB n rows)).1 ∧ (echB p (n + n) (wideB n rows)).1.length = (echB p (n + n) (wideB n rows)).2.length := by
  obtain ⟨m1, m2, m3⟩ := ech_mat hp (wideB_mat hp hM hl) (by rw [wideB_length]; omega)
  exact ⟨m1, m2⟩
theorem spec_InverseOf_ev (p cols : Int) (rows : List (List Int)) (hl : rows.length ≤ 4611686018427387904) (hr : ∀ r ∈ rows, r.length ≤ 4611686018427387904) : Ev (fun k => spec_InverseOf.f k p cols rows) (InverseRes p cols rows) := by
  unfold spec_InverseOf.f InverseRes
  refine Ev.bind (spec_l03Ok_ev p cols rows hl hr) ?_
  cases hv : validMB p cols rows with
  | false => exact Ev.now _
  | true =>
    obtain ⟨h1, h2, h3, h4, h5⟩ := MatP_of_valid hv
    have hpr := prime_of_valid hv
    simp only [if_true]
    by_cases hsq : (rows.length : Int) = cols
    · simp only [if_pos hsq]
      obtain ⟨n, rfl⟩ : ∃ n : Nat, cols = (n : Int) := ⟨cols.toNat, h2.symm⟩
      simp only [Int.toNat_natCast] at *
      have hln : rows.length = n := by omega
      refine Ev.bind (spec_l03Rank_ev h1 (by omega) h5 (by omega)) ?_
      by_cases hk : ((echB p n rows).2.length : Int) = (n : Int)
      · simp only [if_pos hk]
        have hs := mat_small h5
        refine Ev.bind (spec_l03Unit_ev p n (by omega)) ?_
        have hb := spec_l03Beside_ev (p := p) (a := (n : Int)) (rows := rows) (cols := unitM n) (by omega) (by rw [unitM_length]; omega) (by omega) (fun r hr => by rw [hs r hr]; omega) (fun j hj => by rw [unitM_length] at hj; rw [unitM_grp hj, unitB_length]; omega)
        rw [beside_unit hln, unitM_length, ← Int.natCast_add] at hb
        refine Ev.bind hb ?_
        obtain ⟨m1, m2⟩ := wide_ech h1.1 h5 hln (by omega)
        obtain ⟨w1, w2, w3⟩ := wide_piv hpr h5 hln (by omega)
        refine Ev.bind (spec_echelon_ev h1 (by omega) (wideB_mat h1.1 h5 hln) (by rw [wideB_length]; omega)) ?_
        exact spec_inverse_out (E := (echB p (n + n) (wideB n rows)).1) (by omega) m1 (m2.trans w1)
      · simp only [if_neg hk]; exact Ev.now _
    · simp only [if_neg hsq]; exact Ev.now _
theorem impl_InverseOf_ev (p cols : Int) (rows : List (List Int)) (hl : rows.length ≤ 4611686018427387904) (hr : ∀ r ∈ rows, r.length ≤ 4611686018427387904) : Ev (fun k => impl_InverseOf.f k p cols rows) (InverseRes p cols rows) := by
  unfold impl_InverseOf.f InverseRes
  refine Ev.bind (impl_ValidMatrix_ev p cols rows hl hr) ?_
  cases hv : validMB p cols rows with
  | false => exact Ev.now _
  | true =>
    obtain ⟨h1, h2, h3, h4, h5⟩ := MatP_of_valid hv
    have hpr := prime_of_valid hv
    simp only [if_true, impl_Matrix_isSquare.f, Option.bind_some]
    by_cases hsq : (rows.length : Int) = cols
    · simp only [if_pos hsq, hsq, beq_self_eq_true, if_true]
      obtain ⟨n, rfl⟩ : ∃ n : Nat, cols = (n : Int) := ⟨cols.toNat, h2.symm⟩
      simp only [Int.toNat_natCast] at *
      have hln : rows.length = n := by omega
      have hs := mat_small h5
      rw [show (2 : Int) * (n : Int) = ((n + n : Nat) : Int) by omega, wr (x := ((n + n : Nat) : Int)) (by omega) (by omega)]
      obtain ⟨m1, m2⟩ := wide_ech h1.1 h5 hln (by omega)
      obtain ⟨w1, w2, w3⟩ := wide_piv hpr h5 hln (by omega)
      refine build_ev (l := fun k i acc => impl_InverseOf.l0 k (n : Int) rows (n : Int) i p (n : Int) rows p ((n + n : Nat) : Int) acc) n (fun i => grp rows i ++ unitB n i) (fun i acc hi hacc r hr2 => ?_) ?_
      · have hl := (h5 i (by omega)).1
        refine Ev.step (fun k => ?_) hr2
        simp only [impl_InverseOf.l0]
        rw [if_pos (by omega), if_pos (by omega), if_pos (by omega), if_pos (by omega), if_pos (by omega), rdL_cast, clone_eq _ (by omega), wr (by omega) (by omega)]
        simp only [Option.bind_some, List.length_replicate, Int.toNat_natCast, if_pos (show (i : Int) < (n : Int) by omega)]
        rw [if_pos (by simp only [List.length_set, List.length_replicate]; omega), if_pos (by omega)]
        rfl
      · have ew : (List.range n).map (fun i => grp rows i ++ unitB n i) = wideB n rows := by unfold wideB; rw [hln]
        rw [ew]
        refine Ev.step (f := fun k => (impl_Matrix_echelon.f k p ((n + n : Nat) : Int) (wideB n rows)).bind fun bt385 => (impl_InverseOf.l1 k (n : Int) bt385.2.2.2 bt385.2.2.1 (bt385.2.2.1.length : Int) 0 p (n : Int) ([] : List (List Int)))) (fun k => ?_) ?_
        · simp only [impl_InverseOf.l0]
          rw [if_neg (by omega)]
        · refine Ev.bind (impl_echelon_ev h1 (by omega) (wideB_mat h1.1 h5 hln) (by rw [wideB_length]; omega)) ?_
          obtain ⟨o1, o2⟩ := impl_inverse_out (a := 0) (b := 0) (c := 0) (E := (echB p (n + n) (wideB n rows)).1) (by omega) m1 (m2.trans w1) w1
          by_cases hk : ((echB p n rows).2.length : Int) = (n : Int)
          · simp only [if_pos hk]
            exact o1 (w2 (by omega))
          · simp only [if_neg hk]
            exact o2 (w3 (by omega))
    · simp only [if_neg hsq, show ((rows.length : Int) == cols) = false from beq_eq_false_iff_ne.mpr hsq]; exact Ev.now _
theorem InverseRes_size (p cols : Int) (rows : List (List Int)) : ∃ a b c d, InverseRes p cols rows = (a, b, c, d) ∧ c.length ≤ 20 ∧ (∀ r ∈ c, r.length ≤ 12) ∧ allLen c ≤ 240 := by
  unfold InverseRes
  split
  · rename_i hv
    obtain ⟨h1, h2, h3, h4, h5⟩ := MatP_of_valid hv
    have hpr := prime_of_valid hv
    split
    · rename_i hsq
      split
      · have hln : rows.length = cols.toNat := by omega
        obtain ⟨m1, m2⟩ := wide_ech h1.1 h5 hln (by omega)
        obtain ⟨w1, w2, w3⟩ := wide_piv hpr h5 hln (by omega)
        have hI : MatP p cols.toNat (inverseRowsB p cols.toNat rows) := by
          intro i hi
          have hi2 : i < (echB p (cols.toNat + cols.toNat) (wideB cols.toNat rows)).1.length := by simpa [inverseRowsB] using hi
          have e : grp (inverseRowsB p cols.toNat rows) i = (grp (echB p (cols.toNat + cols.toNat) (wideB cols.toNat rows)).1 i).drop cols.toNat := by
            unfold inverseRowsB
            exact getD_map _ _ _ _ hi2
          rw [e]
          refine ⟨by rw [List.length_drop, (m1 i hi2).1]; omega, fun j => ?_⟩
          rw [getD_drop]
          exact (m1 i hi2).2 _
        have hIl : (inverseRowsB p cols.toNat rows).length ≤ 20 := by
          unfold inverseRowsB
          rw [List.length_map, List.length_range]; omega
        obtain ⟨s1, s2⟩ := mat_size hI (m := 20) hIl
        refine ⟨_, _, _, _, rfl, hIl, fun r hr => Nat.le_trans (s1 r hr) h3, Nat.le_trans s2 ?_⟩
        have := Nat.mul_le_mul_left 20 h3
        omega
      · exact ⟨0, 0, [], 4, rfl, by simp, by simp, by simp [allLen]⟩
    · exact ⟨0, 0, [], 2, rfl, by simp, by simp, by simp [allLen]⟩
  · exact ⟨0, 0, [], 1, rfl, by simp, by simp, by simp [allLen]⟩

end Go.Proofs.Ytjpbemomocccaaa.P

/- For every matrix the program's InverseOf and the reference's answer alike, the argument stays, and the result is memory of its own. -/
namespace Go.Proofs.Ytjpbemomocccaaa.Pure
open Go.RowKit Go.Proofs.Ytjpbemomocccaaa.P Go.Proofs.YtjpbemomocccaaaW.PrintWords Go.Proofs.YtjpbemomocccaaaW.PrintLast Go.Proofs.YtjpbemomocccaaaW.PrintMore
set_option linter.unusedVariables false
set_option linter.unusedSimpArgs false

theorem FnExactInverseOf : laws_FnExactInverseOf.Pure := by
  intro x hx
  obtain ⟨xp, xc, xs⟩ := x
  have hl : xs.length ≤ 9223372036854775807 := hx.2.2.1
  have hr : ∀ r ∈ xs, r.length ≤ 9223372036854775807 := fun r h => (hx.2.2.2 r h).1
  have s1 := szMatrix_ev xp xc xs 1048576 (by omega) hl hr
  by_cases h : (bulk xs : Int) ≤ 1048576
  · rw [if_pos h] at s1
    obtain ⟨h1, h2⟩ := bulk_len (rows := xs) (n := 1048576) (by omega)
    have h4 : xs.length ≤ 4611686018427387904 := by omega
    have h3 : ∀ r ∈ xs, r.length ≤ 4611686018427387904 := fun r hr => Nat.le_trans (h2 r hr) (by omega)
    have h5 : allLen xs ≤ 1048576 := by unfold bulk at h; unfold allLen; omega
    obtain ⟨r1, r2, r3, r4, er, z1, z2, z3⟩ : ∃ a b c d, InverseRes xp xc xs = (a, b, c, d) ∧ c.length ≤ 20 ∧ (∀ r ∈ c, r.length ≤ 12) ∧ allLen c ≤ 240 := InverseRes_size xp xc xs
    have z4 : ∀ r ∈ r3, r.length ≤ 1048576 := fun r hr => Nat.le_trans (z2 r hr) (by omega)
    have e1 := spec_InverseOf_ev xp xc xs h4 h3
    have e2 := impl_InverseOf_ev xp xc xs h4 h3
    rw [er] at e1 e2
    obtain ⟨k, a1, a2, a3, a4, a5, a6, a7, a8, a9⟩ := From.now (From.and s1 (From.and (toMatrix_ev xp xc xs h1 h2) (From.and e1 (From.and e2 (From.and (eqMatrix_same r1 r2 r3 (by omega) z4) (From.and (eqMatrix_same xp xc xs h1 h2) (From.and (markMatrix_ev xp xc xs 1 (by omega) (by omega) (by omega)) (From.and (markMatrix_ev r1 r2 r3 1 (by omega) (by omega) (by omega)) (heldMatrix_ev r1 r2 r3 1 (by omega) (by omega) (by omega))))))))))
    exact Or.inr ⟨k, _, r1, r2, r3, r4, _, _, _, _, a1, decide_eq_false (by omega), a2, a3, a2, a4, a5, a2, a6, a7, decide_eq_false (by omega), a5, a8, a9, decide_eq_false (by omega), a2, a4, a5, a9, decide_eq_false (by omega)⟩
  · rw [if_neg h] at s1
    obtain ⟨k, a1⟩ := From.now s1
    exact Or.inl ⟨k, _, a1, by decide⟩

end Go.Proofs.Ytjpbemomocccaaa.Pure

/- The row of the law FnExactInverseOf: whatever its arguments, it answers true, and they read as before. No condition. -/
namespace Go.Proofs.Ytjpbemomocccaaa.fnExactInverseOf
open Go.ChangeShapes Go.WideShapes Go.ChangeAt Go.RowKit Go.Proofs.Ytjpbemomocccaaa.P Go.Proofs.YtjpbemomocccaaaW.PrintWords Go.Proofs.YtjpbemomocccaaaW.PrintLast Go.Proofs.YtjpbemomocccaaaW.PrintMore
open Go.ChangeMaps (open_string shut_string)
set_option linter.unusedVariables false
theorem own : ownKnob Try.prog.godebug = none := by kernel_rfl
theorem laidOut : laidOutB Try.prog = true := by kernel_rfl
set_option maxRecDepth 100000 in
theorem lifted (os : Os) (started : os.Started) (H : Type) (enc : TypeId × Value → H) :
    ReturnsInHanded {} Try.checked os 5 .any (Rows.fnExactInverseOfSpec.pre6 enc Try.prog Try.f5 Rows.fnExactInverseOfRow.domain false) (Rows.fnExactInverseOfSpec.post enc Try.prog Try.f5 false true false false) := by
  refine returnsInHanded_of_change_sized (C := Try.checked) own started (by kernel_rfl) Try.func5
    (ChangeSpec.witness6 (enc := enc) (C := Try.checked) false ⟨#[], #[.agg #[.int .i64 0, .int .i64 0, .slice none 0 0]], []⟩ 8 (by kernel_rfl) (by kernel_rfl) (by kernel_rfl) (by kernel_rfl)) ?_
  intro W base args ds gs before hval0 hW hcnd hsz0 _
  have hval : ∀ (j : Nat) t v, Try.f5.params[j]? = some t → args[j]? = some v → Value.okWide Try.prog W .any base t v := hval0
  have hW' := hW
  obtain ⟨p, q, hA0, hV, rfl, hfz, hnd⟩ := hW
  have hA : DataW.TrodAll enc Try.prog W 0 (fun _ => true) true Try.f5.params.toList args.toList ds p := hA0
  rw [Try.params5] at hA hval
  obtain ⟨v0, vs0, d0, ds0, p0, q0, hargs, rfl, rfl, h0, r0⟩ := trodAll_cons hA
  obtain ⟨rfl, rfl, rfl⟩ := trodAll_nil r0
  obtain rfl : args = #[v0] := by cases args; simp_all
  obtain ⟨rfl, rfl⟩ := trodVars_none hV
  have k0 := h0
  have lt0 : ∀ x ∈ p0, x.block < W.heap.size := by obtain ⟨m, hm⟩ := k0; exact DataW.trod_lt m _ _ _ hm
  obtain ⟨cs0, rfl, _⟩ := okWide_struct Try.underlying24 (hval 0 24 v0 rfl rfl)
  obtain ⟨x0, hK0, wf0⟩ := OpensAt.any opensS24 h0
  obtain ⟨A0_2, c0_2, e0, l0_2, g0_2⟩ := k24_open hK0
  obtain rfl : cs0 = #[.int .i64 x0.f0, .int .i64 x0.f1, .slice A0_2 x0.f2.length c0_2] := by cases cs0; simpa [Value.cells] using e0
  clear hA0 hval0 hsz0
  refine (P.laws_FnExactInverseOf.walk Pure.FnExactInverseOf x0 _ _ W g0_2 l0_2 wf0).mono fun e W' ⟨he, bel⟩ => ?_
  subst he
  exact ⟨_, rfl, _, _, _, [], _, [], hW', trodAll_mk1 (shut_bool Try.underlying4 _), (trodAll_cons_mk (Below.trod laidOut (by kernel_rfl) (of_decide_eq_true (by kernel_rfl)) k0 bel lt0) trodAll_mk0), rfl, bel.frame _, fun h => by cases h⟩
theorem over : Rows.fnExactInverseOfRow.holds Try.pinned (OpenSpec.ofChange Rows.fnExactInverseOfSpec) :=
  OpenClaim.holds_of_wide 5 Try.f5 rfl rfl rfl rfl rfl rfl rfl ⟨rfl, rfl, rfl, rfl, rfl⟩ rfl rfl rfl rfl rfl (by kernel_rfl) Try.func5 (by kernel_rfl)
    (of_decide_eq_true (by kernel_rfl)) (by unfold Func.isWrapper; first | (rw [if_pos (by decide +kernel)]; kernel_rfl) | (rw [if_neg (by decide +kernel)]; exact ⟨rfl, rfl⟩))
    (fun os started H enc _ => lifted os started H enc)
theorem proved : Rows.FnExactInverseOfSaid := over
#print axioms proved
end Go.Proofs.Ytjpbemomocccaaa.fnExactInverseOf
namespace Go.Proofs.Ytjpbemomocccaaa
/-- The row, under a short name, for the claim. -/
theorem fnExactInverseOf_holds : Rows.FnExactInverseOfSaid := fnExactInverseOf.proved
end Go.Proofs.Ytjpbemomocccaaa
