/- For all two schemes the program's SameScheme and the reference's answer alike, and the arguments stay. This text: the theorem of the row, and part 3 of what it rests on. -/
import Derived.Test.YtopgelloghblaaaCFnExactSameSchemeb
import Derived.Below
import Derived.Carry
import Derived.ChangeOld
import Derived.OpenShut
import Derived.ProofKit
import Derived.ShutString
import Derived.SizedLaws
import Derived.Test.YtopgelloghblaaaRows
import Derived.WalkKit
namespace Go.Proofs.Ytopgelloghblaaa.P
open Go.RowKit Go.Proofs.YtopgelloghblaaaW.PrintWords Go.Proofs.YtopgelloghblaaaW.PrintLast Go.Proofs.YtopgelloghblaaaW.PrintMore
attribute [local go_sem] max2_int min2_int max_two min_two max_three min_three max_four min_four
set_option linter.unusedVariables false
set_option linter.unusedSimpArgs false

/-- What holds from some number of rounds on. -/
def From (P : Nat → Prop) : Prop := ∃ K, ∀ k, K ≤ k → P k
theorem From.and {P Q : Nat → Prop} (hp : From P) (hq : From Q) : From fun k => P k ∧ Q k := by
  obtain ⟨K, hK⟩ := hp
  obtain ⟨L, hL⟩ := hq
  exact ⟨max K L, fun k h => ⟨hK k (by omega), hL k (by omega)⟩⟩
theorem From.ever {P : Prop} (h : P) : From fun _ => P := ⟨0, fun _ _ => h⟩
theorem From.now {P : Nat → Prop} (h : From P) : ∃ k, P k := by
  obtain ⟨K, hK⟩ := h
  exact ⟨K, hK K (Nat.le_refl _)⟩
theorem range_same {α : Type} [DecidableEq α] (a b : List α) (h : a.length = b.length) : (List.range a.length).all (fun i => decide (a[i]? = b[i]?)) = decide (a = b) := by
  rw [Bool.eq_iff_iff, List.all_eq_true, decide_eq_true_iff]
  constructor
  · intro hq
    refine List.ext_getElem? fun i => ?_
    by_cases hi : i < a.length
    · exact of_decide_eq_true (hq i (by simpa using hi))
    · rw [List.getElem?_eq_none (by omega), List.getElem?_eq_none (by omega)]
  · rintro rfl i _
    exact decide_eq_true rfl
/-- A loop that compares two lists of one length, place by place. -/
theorem same_ev {α : Type} [DecidableEq α] (a b : List α) (hab : a.length = b.length) {l : Nat → Int → Option Bool}
    (hgo : ∀ (i : Nat) (h1 : i < a.length) (h2 : i < b.length), a[i] = b[i] → ∀ r, Ev (fun k => l k ((i + 1 : Nat) : Int)) r → Ev (fun k => l k (i : Int)) r)
    (hstop : ∀ (i : Nat) (h1 : i < a.length) (h2 : i < b.length), a[i] ≠ b[i] → Ev (fun k => l k (i : Int)) false)
    (hend : Ev (fun k => l k (a.length : Int)) true) : Ev (fun k => l k 0) (decide (a = b)) := by
  have h := scan_ev (l := l) (n := a.length) (q := fun i => decide (a[i]? = b[i]?)) (fin := true) (stop := false)
    (fun i hi hq t ht => by
      have h2 : i < b.length := by omega
      have hq' := of_decide_eq_true hq
      rw [List.getElem?_eq_getElem hi, List.getElem?_eq_getElem h2, Option.some.injEq] at hq'
      exact hgo i hi h2 hq' t ht)
    (fun i hi hq => by
      have h2 : i < b.length := by omega
      have hq' := of_decide_eq_false hq
      rw [List.getElem?_eq_getElem hi, List.getElem?_eq_getElem h2, Option.some.injEq] at hq'
      exact hstop i hi h2 hq')
    hend
  rw [range_same a b hab] at h
  have e : (if decide (a = b) = true then true else false) = decide (a = b) := by cases decide (a = b) <;> rfl
  rwa [e] at h
theorem spec_l00Same_ev (a b : List Int) (hl : a.length ≤ 4611686018427387904) : Ev (fun k => spec_l00Same.f k a b) (decide (a = b)) := by
  unfold spec_l00Same.f
  by_cases h : a.length = b.length
  · simp only [if_pos (show (a.length : Int) = (b.length : Int) by omega)]
    refine same_ev a b h (fun i h1 h2 e t ht => ?_) (fun i h1 h2 e => ?_) ?_
    · refine Ev.step (fun k => ?_) ht
      simp only [spec_l00Same.l0]
      rw [if_pos (by omega), if_pos (by omega), if_pos (by omega), rd_nat a i h1, rd_nat b i h2, if_pos e, wr (by omega) (by omega)]
      rfl
    · refine Ev.step (f := fun _ => some false) (fun k => ?_) (Ev.now _)
      simp only [spec_l00Same.l0]
      rw [if_pos (by omega), if_pos (by omega), if_pos (by omega), rd_nat a i h1, rd_nat b i h2, if_neg e]
    · refine Ev.step (f := fun _ => some true) (fun k => ?_) (Ev.now _)
      simp only [spec_l00Same.l0]
      rw [if_neg (by omega)]
  · simp only [if_neg (show ¬ (a.length : Int) = (b.length : Int) by omega)]
    rw [decide_eq_false (by intro e; exact h (by rw [e]))]
    exact Ev.now _
theorem slices_Equal_ev (a b : List Int) (hl : a.length ≤ 4611686018427387904) : Ev (fun k => slices_Equal_int64_int64.f k a b) (decide (a = b)) := by
  unfold slices_Equal_int64_int64.f
  by_cases h : a.length = b.length
  · simp only [if_pos (show (a.length : Int) = (b.length : Int) by omega)]
    refine same_ev a b h (fun i h1 h2 e t ht => ?_) (fun i h1 h2 e => ?_) ?_
    · refine Ev.step (fun k => ?_) ht
      simp only [slices_Equal_int64_int64.l0]
      rw [if_pos (by omega), if_pos (by omega), if_pos (by omega), if_pos (by omega), rd_nat a i h1, rd_nat b i h2, if_pos e, wr (by omega) (by omega)]
      rfl
    · refine Ev.step (f := fun _ => some false) (fun k => ?_) (Ev.now _)
      simp only [slices_Equal_int64_int64.l0]
      rw [if_pos (by omega), if_pos (by omega), if_pos (by omega), if_pos (by omega), rd_nat a i h1, rd_nat b i h2, if_neg e]
    · refine Ev.step (f := fun _ => some true) (fun k => ?_) (Ev.now _)
      simp only [slices_Equal_int64_int64.l0]
      rw [if_neg (by omega)]
  · simp only [if_neg (show ¬ (a.length : Int) = (b.length : Int) by omega)]
    rw [decide_eq_false (by intro e; exact h (by rw [e]))]
    exact Ev.now _
theorem eqRows_ev (a b : List (List Int)) (hl : a.length ≤ 4611686018427387904) (hr : ∀ r ∈ a, r.length ≤ 4611686018427387904) : Ev (fun k => eqRows.f k a b) (decide (a = b)) := by
  unfold eqRows.f
  by_cases h : a.length = b.length
  · simp only [if_pos (show (a.length : Int) = (b.length : Int) by omega)]
    have one : ∀ (i : Nat) (h1 : i < a.length) (h2 : i < b.length), Ev (fun k => eqRows.l0 (k + 1) a b (i : Int)) = Ev (fun k => (slices_Equal_int64_int64.f k a[i] b[i]).bind fun t => if t = true then eqRows.l0 k a b ((i + 1 : Nat) : Int) else some false) := fun i h1 h2 => by
      congr 1
      funext k
      simp only [eqRows.l0]
      rw [if_pos (by omega), if_pos (by omega), if_pos (by omega), rdL_nat a i h1, rdL_nat b i h2, wr (by omega) (by omega)]
      rfl
    refine same_ev a b h (fun i h1 h2 e t ht => ?_) (fun i h1 h2 e => ?_) ?_
    · refine Ev.step (f := fun k => eqRows.l0 (k + 1) a b (i : Int)) (fun k => rfl) ?_
      rw [one i h1 h2]
      refine Ev.bind (slices_Equal_ev _ _ (hr _ (List.getElem_mem h1))) ?_
      simp only [decide_eq_true e, if_true]
      exact ht
    · refine Ev.step (f := fun k => eqRows.l0 (k + 1) a b (i : Int)) (fun k => rfl) ?_
      rw [one i h1 h2]
      refine Ev.bind (slices_Equal_ev _ _ (hr _ (List.getElem_mem h1))) ?_
      simp only [decide_eq_false e]
      exact Ev.now _
    · refine Ev.step (f := fun _ => some true) (fun k => ?_) (Ev.now _)
      simp only [eqRows.l0]
      rw [if_neg (by omega)]
  · simp only [if_neg (show ¬ (a.length : Int) = (b.length : Int) by omega)]
    rw [decide_eq_false (by intro e; exact h (by rw [e]))]
    exact Ev.now _
theorem impl_SameMatrix_ev (p c : Int) (a : List (List Int)) (q d : Int) (b : List (List Int)) (hl : a.length ≤ 4611686018427387904) (hr : ∀ r ∈ a, r.length ≤ 4611686018427387904) : Ev (fun k => impl_SameMatrix.f k p c a q d b) (decide (p = q ∧ c = d ∧ a = b)) := by
  unfold impl_SameMatrix.f
  by_cases h1 : p = q
  · by_cases h2 : c = d
    · simp only [if_pos h1, if_pos h2]
      rw [show decide (p = q ∧ c = d ∧ a = b) = decide (a = b) from by simp [h1, h2]]
      exact eqRows_ev a b hl hr
    · simp only [if_pos h1, if_neg h2]
      rw [decide_eq_false (by simp [h2])]
      exact Ev.now _
  · simp only [if_neg h1]
    rw [decide_eq_false (by simp [h1])]
    exact Ev.now _
theorem spec_SameMatrix_ev (p c : Int) (a : List (List Int)) (q d : Int) (b : List (List Int)) (hl : a.length ≤ 4611686018427387904) (hr : ∀ r ∈ a, r.length ≤ 4611686018427387904) : Ev (fun k => spec_SameMatrix.f k p c a q d b) (decide (p = q ∧ c = d ∧ a = b)) := by
  unfold spec_SameMatrix.f
  have stop : Ev (fun k => spec_SameMatrix.j0 k true p c a q d b) false := by
    refine Ev.step (f := fun _ => some false) (fun k => ?_) (Ev.now _)
    simp only [spec_SameMatrix.j0, if_true]
  by_cases h1 : p = q
  · by_cases h2 : c = d
    · simp only [if_pos h1, if_pos h2]
      rw [show decide (p = q ∧ c = d ∧ a = b) = decide (a = b) from by simp [h1, h2]]
      by_cases h : a.length = b.length
      · rw [show ((a.length : Int) != (b.length : Int)) = false from by simp [h]]
        refine Ev.step (f := fun k => spec_SameMatrix.l0 k 0 p c a q d b) (fun k => by simp [spec_SameMatrix.j0]) ?_
        have one : ∀ (i : Nat) (h1 : i < a.length) (h2 : i < b.length), Ev (fun k => spec_SameMatrix.l0 (k + 1) (i : Int) p c a q d b) = Ev (fun k => (spec_l00Same.f k a[i] b[i]).bind fun t => if t = true then spec_SameMatrix.l0 k ((i + 1 : Nat) : Int) p c a q d b else some false) := fun i h1 h2 => by
          congr 1
          funext k
          simp only [spec_SameMatrix.l0]
          rw [if_pos (by omega), if_pos (by omega), if_pos (by omega), rdL_nat a i h1, rdL_nat b i h2, wr (by omega) (by omega)]
          rfl
        refine same_ev (l := fun k i => spec_SameMatrix.l0 k i p c a q d b) a b h (fun i h1 h2 e t ht => ?_) (fun i h1 h2 e => ?_) ?_
        · refine Ev.step (f := fun k => spec_SameMatrix.l0 (k + 1) (i : Int) p c a q d b) (fun k => rfl) ?_
          rw [one i h1 h2]
          refine Ev.bind (spec_l00Same_ev _ _ (hr _ (List.getElem_mem h1))) ?_
          simp only [decide_eq_true e, if_true]
          exact ht
        · refine Ev.step (f := fun k => spec_SameMatrix.l0 (k + 1) (i : Int) p c a q d b) (fun k => rfl) ?_
          rw [one i h1 h2]
          refine Ev.bind (spec_l00Same_ev _ _ (hr _ (List.getElem_mem h1))) ?_
          simp only [decide_eq_false e]
          exact Ev.now _
        · refine Ev.step (f := fun _ => some true) (fun k => ?_) (Ev.now _)
          simp only [spec_SameMatrix.l0]
          rw [if_neg (by omega)]
      · rw [show ((a.length : Int) != (b.length : Int)) = true from by simp; omega, decide_eq_false (by intro e; exact h (by rw [e]))]
        exact stop
    · simp only [if_pos h1, if_neg h2]
      rw [decide_eq_false (by simp [h2])]
      exact stop
  · simp only [if_neg h1]
    rw [decide_eq_false (by simp [h1])]
    exact stop

end Go.Proofs.Ytopgelloghblaaa.P

namespace Go.Proofs.Ytopgelloghblaaa.P
open Go.RowKit Go.Proofs.YtopgelloghblaaaW.PrintWords Go.Proofs.YtopgelloghblaaaW.PrintLast Go.Proofs.YtopgelloghblaaaW.PrintMore
attribute [local go_sem] max2_int min2_int max_two min_two max_three min_three max_four min_four
set_option linter.unusedVariables false
set_option linter.unusedSimpArgs false

theorem szScheme_ev (c : Int) (o : List Int) (p q : Int) (rows : List (List Int)) (a : Int) (ha : 0 ≤ a ∧ a ≤ 1048576) (ho : o.length ≤ 9223372036854775807) (hl : rows.length ≤ 9223372036854775807) (hr : ∀ r ∈ rows, r.length ≤ 9223372036854775807) :
    Ev (fun k => laws_szScheme.f k c o p q rows a) (if ((o.length + bulk rows : Nat) : Int) ≤ a then a - ((o.length + bulk rows : Nat) : Int) else -1) := by
  unfold laws_szScheme.f
  rw [szInt64S_eq o a ha ho]
  simp only [Option.bind_some]
  by_cases h : (o.length : Int) ≤ a
  · simp only [if_pos h, if_neg (show ¬ (a - (o.length : Int) < 0) by omega)]
    refine Ev.bind (szMatrix_ev p q rows _ (by omega) hl hr) ?_
    by_cases h2 : (bulk rows : Int) ≤ a - (o.length : Int)
    · simp only [if_pos h2, if_neg (show ¬ (a - (o.length : Int) - (bulk rows : Int) < 0) by omega)]
      rw [if_pos (by omega), show a - ((o.length + bulk rows : Nat) : Int) = a - (o.length : Int) - (bulk rows : Int) from by omega]
      exact Ev.now _
    · simp only [if_neg h2]
      rw [show (if ((o.length + bulk rows : Nat) : Int) ≤ a then a - ((o.length + bulk rows : Nat) : Int) else -1) = -1 from if_neg (by omega)]
      exact Ev.now _
  · simp only [if_neg h]
    rw [show (if ((o.length + bulk rows : Nat) : Int) ≤ a then a - ((o.length + bulk rows : Nat) : Int) else -1) = -1 from if_neg (by omega)]
    exact Ev.now _
theorem toScheme_ev (c : Int) (o : List Int) (p q : Int) (l : List (List Int)) (ho : o.length ≤ 1048576) (hl : l.length ≤ 1048576) (hr : ∀ r ∈ l, r.length ≤ 1048576) : Ev (fun k => laws_toScheme.f k c o p q l) (c, o, p, q, l) := by
  unfold laws_toScheme.f
  exact Ev.bind (toInt64S_ev o ho) (Ev.bind (toMatrix_ev p q l hl hr) (Ev.now _))
theorem eqScheme_same (c : Int) (o : List Int) (p q : Int) (l : List (List Int)) (ho : o.length ≤ 1048576) (hl : l.length ≤ 1048576) (hr : ∀ r ∈ l, r.length ≤ 1048576) : Ev (fun k => laws_eqScheme.f k c o p q l c o p q l) true := by
  unfold laws_eqScheme.f
  simp only [if_true]
  refine Ev.bind (eqInt64S_same o ho) ?_
  simp only [if_true]
  refine Ev.bind (eqMatrix_same p q l hl hr) ?_
  simp only [if_true]
  exact Ev.now _
theorem spec_SameScheme_ev (c : Int) (o : List Int) (p q : Int) (l : List (List Int)) (c' : Int) (o' : List Int) (p' q' : Int) (l' : List (List Int)) (ho : o.length ≤ 4611686018427387904) (hl : l.length ≤ 4611686018427387904) (hr : ∀ r ∈ l, r.length ≤ 4611686018427387904) :
    Ev (fun k => spec_SameScheme.f k c o p q l c' o' p' q' l') (decide (c = c') && (decide (o = o') && decide (p = p' ∧ q = q' ∧ l = l'))) := by
  unfold spec_SameScheme.f
  by_cases h : c = c'
  · simp only [if_pos h, decide_eq_true h, Bool.true_and]
    refine Ev.bind (spec_l00Same_ev o o' ho) ?_
    by_cases h2 : o = o'
    · simp only [decide_eq_true h2, if_true, Bool.true_and]
      exact Ev.bind (spec_SameMatrix_ev p q l p' q' l' hl hr) (Ev.now _)
    · simp only [decide_eq_false h2, Bool.false_and]
      exact Ev.now _
  · simp only [if_neg h, decide_eq_false h, Bool.false_and]
    exact Ev.now _
theorem impl_SameScheme_ev (c : Int) (o : List Int) (p q : Int) (l : List (List Int)) (c' : Int) (o' : List Int) (p' q' : Int) (l' : List (List Int)) (ho : o.length ≤ 4611686018427387904) (hl : l.length ≤ 4611686018427387904) (hr : ∀ r ∈ l, r.length ≤ 4611686018427387904) :
    Ev (fun k => impl_SameScheme.f k c o p q l c' o' p' q' l') (decide (c = c') && (decide (o = o') && decide (p = p' ∧ q = q' ∧ l = l'))) := by
  unfold impl_SameScheme.f
  by_cases h : c = c'
  · simp only [if_pos h, decide_eq_true h, Bool.true_and]
    refine Ev.bind (slices_Equal_ev o o' ho) ?_
    by_cases h2 : o = o'
    · simp only [decide_eq_true h2, if_true, Bool.true_and]
      exact Ev.bind (impl_SameMatrix_ev p q l p' q' l' hl hr) (Ev.now _)
    · simp only [decide_eq_false h2, Bool.false_and]
      exact Ev.now _
  · simp only [if_neg h, decide_eq_false h, Bool.false_and]
    exact Ev.now _

end Go.Proofs.Ytopgelloghblaaa.P

/- For all two schemes the program's SameScheme and the reference's answer alike, and the arguments stay. -/
namespace Go.Proofs.Ytopgelloghblaaa.Pure
open Go.RowKit Go.Proofs.Ytopgelloghblaaa.P Go.Proofs.YtopgelloghblaaaW.PrintWords Go.Proofs.YtopgelloghblaaaW.PrintLast Go.Proofs.YtopgelloghblaaaW.PrintMore
set_option linter.unusedVariables false
set_option linter.unusedSimpArgs false

theorem FnExactSameScheme : laws_FnExactSameScheme.Pure := by
  intro x y hx hy
  obtain ⟨xc, xo, xp, xq, xs⟩ := x
  obtain ⟨yc, yo, yp, yq, ys⟩ := y
  have ho : xo.length ≤ 9223372036854775807 := hx.2.1.1
  have hl : xs.length ≤ 9223372036854775807 := hx.2.2.2.2.1
  have hr : ∀ r ∈ xs, r.length ≤ 9223372036854775807 := fun r h => (hx.2.2.2.2.2 r h).1
  have ho' : yo.length ≤ 9223372036854775807 := hy.2.1.1
  have hl' : ys.length ≤ 9223372036854775807 := hy.2.2.2.2.1
  have hr' : ∀ r ∈ ys, r.length ≤ 9223372036854775807 := fun r h => (hy.2.2.2.2.2 r h).1
  have s1 := szScheme_ev xc xo xp xq xs 1048576 (by omega) ho hl hr
  by_cases h : ((xo.length + bulk xs : Nat) : Int) ≤ 1048576
  · rw [if_pos h] at s1
    have s2 := szScheme_ev yc yo yp yq ys (1048576 - ((xo.length + bulk xs : Nat) : Int)) (by omega) ho' hl' hr'
    by_cases h' : ((yo.length + bulk ys : Nat) : Int) ≤ 1048576 - ((xo.length + bulk xs : Nat) : Int)
    · rw [if_pos h'] at s2
      obtain ⟨h1, h2⟩ := bulk_len (rows := xs) (n := 1048576) (by omega)
      obtain ⟨h1', h2'⟩ := bulk_len (rows := ys) (n := 1048576) (by omega)
      have h4 : xs.length ≤ 4611686018427387904 := by omega
      have h3 : ∀ r ∈ xs, r.length ≤ 4611686018427387904 := fun r hr => Nat.le_trans (h2 r hr) (by omega)
      obtain ⟨k, a1, a2, a3, a4, a5, a6, a7, a8⟩ := From.now (From.and s1 (From.and s2 (From.and (toScheme_ev xc xo xp xq xs (by omega) h1 h2) (From.and (toScheme_ev yc yo yp yq ys (by omega) h1' h2') (From.and (spec_SameScheme_ev xc xo xp xq xs yc yo yp yq ys (by omega) h4 h3) (From.and (impl_SameScheme_ev xc xo xp xq xs yc yo yp yq ys (by omega) h4 h3) (From.and (eqScheme_same xc xo xp xq xs (by omega) h1 h2) (eqScheme_same yc yo yp yq ys (by omega) h1' h2'))))))))
      exact Or.inr (Or.inr ⟨k, _, _, _, a1, decide_eq_false (by omega), a2, decide_eq_false (by omega), a3, a4, a5, a3, a4, a6, a3, a7, a4, a8⟩)
    · rw [if_neg h'] at s2
      obtain ⟨k, a1, a2⟩ := From.now (From.and s1 s2)
      exact Or.inr (Or.inl ⟨k, _, _, a1, decide_eq_false (by omega), a2, by decide⟩)
  · rw [if_neg h] at s1
    obtain ⟨k, a1⟩ := From.now s1
    exact Or.inl ⟨k, _, a1, by decide⟩

end Go.Proofs.Ytopgelloghblaaa.Pure

/- The row of the law FnExactSameScheme: whatever its arguments, it answers true, and they read as before. No condition. -/
namespace Go.Proofs.Ytopgelloghblaaa.fnExactSameScheme
open Go.ChangeShapes Go.WideShapes Go.ChangeAt Go.RowKit Go.Proofs.Ytopgelloghblaaa.P Go.Proofs.YtopgelloghblaaaW.PrintWords Go.Proofs.YtopgelloghblaaaW.PrintLast Go.Proofs.YtopgelloghblaaaW.PrintMore
open Go.ChangeMaps (open_string shut_string)
set_option linter.unusedVariables false
theorem own : ownKnob Try.prog.godebug = none := by kernel_rfl
theorem laidOut : laidOutB Try.prog = true := by kernel_rfl
set_option maxRecDepth 100000 in
theorem lifted (os : Os) (started : os.Started) (H : Type) (enc : TypeId × Value → H) :
    ReturnsInHanded {} Try.checked os 12 .any (Rows.fnExactSameSchemeSpec.pre6 enc Try.prog Try.f12 Rows.fnExactSameSchemeRow.domain false) (Rows.fnExactSameSchemeSpec.post enc Try.prog Try.f12 false true false false) := by
  refine returnsInHanded_of_change_sized (C := Try.checked) own started (by kernel_rfl) Try.func12
    (ChangeSpec.witness6 (enc := enc) (C := Try.checked) false ⟨#[], #[.agg #[.int .i64 0, .slice none 0 0, .int .i64 0, .int .i64 0, .slice none 0 0], .agg #[.int .i64 0, .slice none 0 0, .int .i64 0, .int .i64 0, .slice none 0 0]], []⟩ 8 (by kernel_rfl) (by kernel_rfl) (by kernel_rfl) (by kernel_rfl)) ?_
  intro W base args ds gs before hval0 hW hcnd hsz0 _
  have hval : ∀ (j : Nat) t v, Try.f12.params[j]? = some t → args[j]? = some v → Value.okWide Try.prog W .any base t v := hval0
  have hW' := hW
  obtain ⟨p, q, hA0, hV, rfl, hfz, hnd⟩ := hW
  have hA : DataW.TrodAll enc Try.prog W 0 (fun _ => true) true Try.f12.params.toList args.toList ds p := hA0
  rw [Try.params12] at hA hval
  obtain ⟨v0, vs0, d0, ds0, p0, q0, hargs, rfl, rfl, h0, r0⟩ := trodAll_cons hA
  obtain ⟨v1, vs1, d1, ds1, p1, q1, rfl, rfl, rfl, h1, r1⟩ := trodAll_cons r0
  obtain ⟨rfl, rfl, rfl⟩ := trodAll_nil r1
  obtain rfl : args = #[v0, v1] := by cases args; simp_all
  obtain ⟨rfl, rfl⟩ := trodVars_none hV
  have k0 := h0
  have lt0 : ∀ x ∈ p0, x.block < W.heap.size := by obtain ⟨m, hm⟩ := k0; exact DataW.trod_lt m _ _ _ hm
  obtain ⟨cs0, rfl, _⟩ := okWide_struct Try.underlying43 (hval 0 43 v0 rfl rfl)
  obtain ⟨x0, hK0, wf0⟩ := OpensAt.any opensS43 h0
  obtain ⟨A0_1, c0_1, A0_4, c0_4, e0, l0_1, g0_1, l0_4, g0_4⟩ := k43_open hK0
  obtain rfl : cs0 = #[.int .i64 x0.f0, .slice A0_1 x0.f1.length c0_1, .int .i64 x0.f2.f0, .int .i64 x0.f2.f1, .slice A0_4 x0.f2.f2.length c0_4] := by cases cs0; simpa [Value.cells] using e0
  have k1 := h1
  have lt1 : ∀ x ∈ p1, x.block < W.heap.size := by obtain ⟨m, hm⟩ := k1; exact DataW.trod_lt m _ _ _ hm
  obtain ⟨cs1, rfl, _⟩ := okWide_struct Try.underlying43 (hval 1 43 v1 rfl rfl)
  obtain ⟨x1, hK1, wf1⟩ := OpensAt.any opensS43 h1
  obtain ⟨A1_1, c1_1, A1_4, c1_4, e1, l1_1, g1_1, l1_4, g1_4⟩ := k43_open hK1
  obtain rfl : cs1 = #[.int .i64 x1.f0, .slice A1_1 x1.f1.length c1_1, .int .i64 x1.f2.f0, .int .i64 x1.f2.f1, .slice A1_4 x1.f2.f2.length c1_4] := by cases cs1; simpa [Value.cells] using e1
  clear hA0 hval0 hsz0
  refine (P.laws_FnExactSameScheme.walk Pure.FnExactSameScheme x0 x1 _ _ _ _ _ _ _ _ W g0_1 l0_1 g0_4 l0_4 g1_1 l1_1 g1_4 l1_4 wf0 wf1).mono fun e W' ⟨he, bel⟩ => ?_
  subst he
  exact ⟨_, rfl, _, _, _, [], _, [], hW', trodAll_mk1 (shut_bool Try.underlying4 _), (trodAll_cons_mk (Below.trod laidOut (by kernel_rfl) (of_decide_eq_true (by kernel_rfl)) k0 bel lt0) (trodAll_cons_mk (Below.trod laidOut (by kernel_rfl) (of_decide_eq_true (by kernel_rfl)) k1 bel lt1) trodAll_mk0)), rfl, bel.frame _, fun h => by cases h⟩
theorem over : Rows.fnExactSameSchemeRow.holds Try.pinned (OpenSpec.ofChange Rows.fnExactSameSchemeSpec) :=
  OpenClaim.holds_of_wide 12 Try.f12 rfl rfl rfl rfl rfl rfl rfl ⟨rfl, rfl, rfl, rfl, rfl⟩ rfl rfl rfl rfl rfl (by kernel_rfl) Try.func12 (by kernel_rfl)
    (of_decide_eq_true (by kernel_rfl)) (by unfold Func.isWrapper; first | (rw [if_pos (by decide +kernel)]; kernel_rfl) | (rw [if_neg (by decide +kernel)]; exact ⟨rfl, rfl⟩))
    (fun os started H enc _ => lifted os started H enc)
theorem proved : Rows.FnExactSameSchemeSaid := over
#print axioms proved
end Go.Proofs.Ytopgelloghblaaa.fnExactSameScheme
namespace Go.Proofs.Ytopgelloghblaaa
/-- The row, under a short name, for the claim. -/
theorem fnExactSameScheme_holds : Rows.FnExactSameSchemeSaid := fnExactSameScheme.proved
end Go.Proofs.Ytopgelloghblaaa
