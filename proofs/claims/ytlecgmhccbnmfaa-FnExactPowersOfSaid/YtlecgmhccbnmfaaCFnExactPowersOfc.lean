/- For all arguments the program's PowersOf and the reference's answer alike, the argument stays, and the result is memory of its own. This text: the theorem of the row, and part 3 of what it rests on. -/
import Derived.Test.YtlecgmhccbnmfaaCFnExactPowersOfb
import Derived.Below
import Derived.Carry
import Derived.ChangeOld
import Derived.OpenShut
import Derived.ProofKit
import Derived.ShutString
import Derived.SizedLaws
import Derived.Test.YtlecgmhccbnmfaaRows
import Derived.WalkKit
namespace Go.Proofs.Ytlecgmhccbnmfaa.P
open Go.RowKit Go.Proofs.YtlecgmhccbnmfaaW.PrintWords Go.Proofs.YtlecgmhccbnmfaaW.PrintLast Go.Proofs.YtlecgmhccbnmfaaW.PrintMore
attribute [local go_sem] max2_int min2_int max_two min_two max_three min_three max_four min_four
set_option linter.unusedVariables false
set_option linter.unusedSimpArgs false

/-- The numbers from a on, n of them: what a mark leaves. -/
def upFrom (a : Int) (n : Nat) : List Int := (List.range n).map fun i : Nat => a + (i : Int)
theorem upFrom_length (a : Int) (n : Nat) : (upFrom a n).length = n := by simp [upFrom]
theorem upFrom_succ (a : Int) (n : Nat) : upFrom a (n + 1) = upFrom a n ++ [a + (n : Int)] := by simp [upFrom, List.range_succ]
/-- A loop that writes one place after another. -/
theorem markInt64S_ev (l : List Int) (a : Int) (ha : 0 ≤ a ∧ a ≤ 2147483648) (hl : l.length ≤ 4611686018427387904) : Ev (fun k => laws_markInt64S.f k l a) (a + (l.length : Int), upFrom a l.length) := by
  unfold laws_markInt64S.f
  have key : ∀ d i : Nat, i + d = l.length → Ev (fun k => laws_markInt64S.l0 k (upFrom a i ++ l.drop i) (a + (i : Int)) (i : Int)) (a + (l.length : Int), upFrom a l.length) := by
    intro d
    induction d with
    | zero =>
      intro i hi
      obtain rfl : i = l.length := by omega
      refine Ev.step (f := fun _ => some (a + (l.length : Int), upFrom a l.length)) (fun k => ?_) (Ev.now _)
      simp only [laws_markInt64S.l0]
      rw [if_neg (by simp [upFrom_length]), List.drop_length, List.append_nil]
    | succ d ih =>
      intro i hi
      have hlt : i < l.length := by omega
      refine Ev.step (fun k => ?_) (ih (i + 1) (by omega))
      simp only [laws_markInt64S.l0]
      rw [if_pos (by simp [upFrom_length]; omega), if_pos (by omega), wr (by omega) (by omega), wr (by omega) (by omega), Int.toNat_natCast, List.set_append_right _ _ (by rw [upFrom_length]; exact Nat.le_refl _), upFrom_length, Nat.sub_self, List.drop_eq_getElem_cons hlt, List.set_cons_zero, upFrom_succ, List.append_assoc]
      rw [show a + (i : Int) + 1 = a + ((i + 1 : Nat) : Int) by omega]
      rfl
  have := key l.length 0 (by omega)
  simpa [upFrom] using this
theorem heldInt64S_ev (a : Int) (n : Nat) (ha : 0 ≤ a ∧ a ≤ 2147483648) (hl : n ≤ 4611686018427387904) : Ev (fun k => laws_heldInt64S.f k (upFrom a n) a) (a + (n : Int)) := by
  unfold laws_heldInt64S.f
  have key : ∀ d i : Nat, i + d = n → Ev (fun k => laws_heldInt64S.l0 k (upFrom a n) (a + (i : Int)) (i : Int)) (a + (n : Int)) := by
    intro d
    induction d with
    | zero =>
      intro i hi
      obtain rfl : i = n := by omega
      refine Ev.step (f := fun _ => some (a + (i : Int))) (fun k => ?_) (Ev.now _)
      simp only [laws_heldInt64S.l0]
      rw [if_neg (by simp [upFrom_length])]
    | succ d ih =>
      intro i hi
      have hlt : i < (upFrom a n).length := by rw [upFrom_length]; omega
      refine Ev.step (fun k => ?_) (ih (i + 1) (by omega))
      simp only [laws_heldInt64S.l0]
      rw [if_pos (by simp [upFrom_length]; omega), if_pos (by omega), rd_nat _ i hlt, if_pos (by simp [upFrom]), wr (by omega) (by omega), wr (by omega) (by omega)]
      rw [show a + (i : Int) + 1 = a + ((i + 1 : Nat) : Int) by omega]
      rfl
  have := key n 0 (by omega)
  simpa using this
/-- How many values the first i rows hold. -/
def preLen (rows : List (List Int)) (i : Nat) : Nat := ((rows.map List.length).take i).sum
def allLen (rows : List (List Int)) : Nat := (rows.map List.length).sum
def upRow (a : Int) (rows : List (List Int)) (i : Nat) : List Int := upFrom (a + (preLen rows i : Int)) ((rows.map List.length).getD i 0)
/-- Rows as a mark leaves them. -/
def upRows (a : Int) (rows : List (List Int)) : List (List Int) := (List.range rows.length).map (upRow a rows)
theorem preLen_succ (rows : List (List Int)) (i : Nat) (h : i < rows.length) : preLen rows (i + 1) = preLen rows i + rows[i].length := by
  have := sum_take_succ (rows.map List.length) i (by simpa using h)
  rwa [List.getElem_map] at this
theorem preLen_le (rows : List (List Int)) (i : Nat) : preLen rows i ≤ allLen rows := sum_take_le _ _
theorem preLen_end (rows : List (List Int)) : preLen rows rows.length = allLen rows := by
  unfold preLen allLen
  rw [List.take_of_length_le (by simp)]
theorem upRows_length (a : Int) (rows : List (List Int)) : (upRows a rows).length = rows.length := by simp [upRows]
theorem upRow_eq (a : Int) (rows : List (List Int)) (i : Nat) (h : i < rows.length) : upRow a rows i = upFrom (a + (preLen rows i : Int)) rows[i].length := by
  unfold upRow
  rw [List.getD_eq_getElem?_getD, List.getElem?_map, List.getElem?_eq_getElem h]
  rfl
theorem markInt64SS_ev (rows : List (List Int)) (a : Int) (ha : 0 ≤ a ∧ a ≤ 1073741824) (hl : rows.length ≤ 1073741824) (hs : allLen rows ≤ 1073741824) : Ev (fun k => laws_markInt64SS.f k rows a) (a + (allLen rows : Int), upRows a rows) := by
  unfold laws_markInt64SS.f
  have key : ∀ d i : Nat, i + d = rows.length → Ev (fun k => laws_markInt64SS.l0 k ((List.range i).map (upRow a rows) ++ rows.drop i) (a + (preLen rows i : Int)) (i : Int)) (a + (allLen rows : Int), upRows a rows) := by
    intro d
    induction d with
    | zero =>
      intro i hi
      obtain rfl : i = rows.length := by omega
      refine Ev.step (f := fun _ => some (a + (allLen rows : Int), upRows a rows)) (fun k => ?_) (Ev.now _)
      simp only [laws_markInt64SS.l0]
      rw [if_neg (by simp), List.drop_length, List.append_nil, preLen_end]
      rfl
    | succ d ih =>
      intro i hi
      have hlt : i < rows.length := by omega
      have hp := preLen_succ rows i hlt
      have hp2 := preLen_le rows (i + 1)
      have hrow : rd_L2 ((List.range i).map (upRow a rows) ++ rows.drop i) (i : Int) = rows[i] := by
        rw [rdL_nat _ i (by simp; omega), List.getElem_append_right (by simp)]
        simp
      refine Ev.step (f := fun k => (laws_markInt64S.f k rows[i] (a + (preLen rows i : Int))).bind fun t => laws_markInt64SS.l0 k (((List.range i).map (upRow a rows) ++ rows.drop i).set i t.2) t.1 ((i + 1 : Nat) : Int)) (fun k => ?_) (Ev.bind (markInt64S_ev rows[i] _ (by omega) (by omega)) ?_)
      · simp only [laws_markInt64SS.l0]
        rw [if_pos (by simp; omega), if_pos (by omega), hrow, wr (by omega) (by omega), Int.toNat_natCast]
        rfl
      · have e : ((List.range i).map (upRow a rows) ++ rows.drop i).set i (upFrom (a + (preLen rows i : Int)) rows[i].length) = (List.range (i + 1)).map (upRow a rows) ++ rows.drop (i + 1) := by
          rw [List.set_append_right _ _ (by simp), List.length_map, List.length_range, Nat.sub_self, List.drop_eq_getElem_cons hlt, List.set_cons_zero, List.range_succ, List.map_append, List.append_assoc, ← upRow_eq a rows i hlt]
          rfl
        simp only [e]
        rw [show a + (preLen rows i : Int) + (rows[i].length : Int) = a + (preLen rows (i + 1) : Int) by omega]
        exact ih (i + 1) (by omega)
  have := key rows.length 0 (by omega)
  simpa [preLen] using this
theorem heldInt64SS_ev (rows : List (List Int)) (a : Int) (ha : 0 ≤ a ∧ a ≤ 1073741824) (hl : rows.length ≤ 1073741824) (hs : allLen rows ≤ 1073741824) : Ev (fun k => laws_heldInt64SS.f k (upRows a rows) a) (a + (allLen rows : Int)) := by
  unfold laws_heldInt64SS.f
  have key : ∀ d i : Nat, i + d = rows.length → Ev (fun k => laws_heldInt64SS.l0 k (upRows a rows) (a + (preLen rows i : Int)) (i : Int)) (a + (allLen rows : Int)) := by
    intro d
    induction d with
    | zero =>
      intro i hi
      obtain rfl : i = rows.length := by omega
      refine Ev.step (f := fun _ => some (a + (allLen rows : Int))) (fun k => ?_) (Ev.now _)
      simp only [laws_heldInt64SS.l0]
      rw [if_neg (by simp [upRows_length]), preLen_end]
    | succ d ih =>
      intro i hi
      have hlt : i < rows.length := by omega
      have hp := preLen_succ rows i hlt
      have hp2 := preLen_le rows (i + 1)
      have hlt' : i < (upRows a rows).length := by rw [upRows_length]; exact hlt
      have hrow : rd_L2 (upRows a rows) (i : Int) = upFrom (a + (preLen rows i : Int)) rows[i].length := by
        rw [rdL_nat _ i hlt', ← upRow_eq a rows i hlt]
        simp [upRows]
      refine Ev.step (f := fun k => (laws_heldInt64S.f k (upFrom (a + (preLen rows i : Int)) rows[i].length) (a + (preLen rows i : Int))).bind fun t => if t < 0 then some (-1) else laws_heldInt64SS.l0 k (upRows a rows) t ((i + 1 : Nat) : Int)) (fun k => ?_) (Ev.bind (heldInt64S_ev (a + (preLen rows i : Int)) rows[i].length (by omega) (by omega)) ?_)
      · simp only [laws_heldInt64SS.l0]
        rw [if_pos (by simp [upRows_length]; omega), if_pos (by omega), hrow, wr (by omega) (by omega)]
        rfl
      · simp only [if_neg (show ¬ (a + (preLen rows i : Int) + (rows[i].length : Int) < 0) by omega)]
        rw [show a + (preLen rows i : Int) + (rows[i].length : Int) = a + (preLen rows (i + 1) : Int) by omega]
        exact ih (i + 1) (by omega)
  have := key rows.length 0 (by omega)
  simpa [preLen] using this
theorem markMatrix_ev (p c : Int) (rows : List (List Int)) (a : Int) (ha : 0 ≤ a ∧ a ≤ 1073741824) (hl : rows.length ≤ 1073741824) (hs : allLen rows ≤ 1073741824) : Ev (fun k => laws_markMatrix.f k p c rows a) (a + (allLen rows : Int), upRows a rows) := by
  unfold laws_markMatrix.f
  exact markInt64SS_ev rows a ha hl hs
theorem heldMatrix_ev (p c : Int) (rows : List (List Int)) (a : Int) (ha : 0 ≤ a ∧ a ≤ 1073741824) (hl : rows.length ≤ 1073741824) (hs : allLen rows ≤ 1073741824) : Ev (fun k => laws_heldMatrix.f k p c (upRows a rows) a) (a + (allLen rows : Int)) := by
  unfold laws_heldMatrix.f
  refine Ev.bind (heldInt64SS_ev rows a ha hl hs) ?_
  simp only [if_neg (show ¬ (a + (allLen rows : Int) < 0) by omega)]
  exact Ev.now _
theorem markScheme_ev (h : Int) (o : List Int) (p c : Int) (rows : List (List Int)) (a : Int) (ha : 0 ≤ a ∧ a ≤ 1073740000) (ho : o.length ≤ 1000000) (hl : rows.length ≤ 1073741824) (hs : allLen rows ≤ 1073741824) (hb : a + (o.length : Int) ≤ 1073741824) : Ev (fun k => laws_markScheme.f k h o p c rows a) (a + (o.length : Int) + (allLen rows : Int), upFrom a o.length, upRows (a + (o.length : Int)) rows) := by
  unfold laws_markScheme.f
  refine Ev.bind (markInt64S_ev o a (by omega) (by omega)) (Ev.bind (markMatrix_ev p c rows _ (by omega) hl hs) (Ev.now _))
theorem heldScheme_ev (h : Int) (o : List Int) (p c : Int) (rows : List (List Int)) (a : Int) (ha : 0 ≤ a ∧ a ≤ 1073740000) (ho : o.length ≤ 1000000) (hl : rows.length ≤ 1073741824) (hs : allLen rows ≤ 1073741824) (hb : a + (o.length : Int) ≤ 1073741824) : Ev (fun k => laws_heldScheme.f k h (upFrom a o.length) p c (upRows (a + (o.length : Int)) rows) a) (a + (o.length : Int) + (allLen rows : Int)) := by
  unfold laws_heldScheme.f
  refine Ev.bind (heldInt64S_ev a o.length (by omega) (by omega)) ?_
  simp only [if_neg (show ¬ (a + (o.length : Int) < 0) by omega)]
  refine Ev.bind (heldMatrix_ev p c rows _ (by omega) hl hs) ?_
  simp only [if_neg (show ¬ (a + (o.length : Int) + (allLen rows : Int) < 0) by omega)]
  exact Ev.now _

end Go.Proofs.Ytlecgmhccbnmfaa.P

namespace Go.Proofs.Ytlecgmhccbnmfaa.P
open Go.RowKit Go.Proofs.YtlecgmhccbnmfaaW.PrintWords Go.Proofs.YtlecgmhccbnmfaaW.PrintLast Go.Proofs.YtlecgmhccbnmfaaW.PrintMore
attribute [local go_sem] max2_int min2_int max_two min_two max_three min_three max_four min_four
set_option linter.unusedVariables false
set_option linter.unusedSimpArgs false

/-- A row of a matrix: elements modulo p, as many as there are columns. -/
def rowB (p cols : Int) (r : List Int) : Bool := decide ((r.length : Int) = cols) && elemsB p r
def validMB (p cols : Int) (rows : List (List Int)) : Bool := primeB p && (decide (0 ≤ cols ∧ cols ≤ 12) && (decide (rows.length ≤ 20) && rows.all (rowB p cols)))
theorem spec_l03Row_ev (p cols : Int) (r : List Int) (hp : -1000 ≤ p ∧ p ≤ 1000) (hl : r.length ≤ 4611686018427387904) : Ev (fun k => spec_l03Row.f k p cols r) (rowB p cols r) := by
  unfold spec_l03Row.f
  have h := scan_ev (l := fun k i => spec_l03Row.l0 k p cols r i) (n := r.length) (q := fun i => decide (0 ≤ rd r i ∧ rd r i ≤ p - 1)) (fin := decide ((r.length : Int) = cols)) (stop := false)
    (fun i hi hq t ht => by
      refine Ev.step (fun k => ?_) ht
      simp only [spec_l03Row.l0]
      rw [if_pos (by omega), if_pos (by omega), wr (x := p - 1) (by omega) (by omega), spec_l00In_eq, wr (x := (i : Int) + 1) (by omega) (by omega)]
      simp only [Option.bind_some]
      rw [if_pos hq]
      rfl)
    (fun i hi hq => by
      refine Ev.step (f := fun _ => some false) (fun k => ?_) (Ev.now _)
      simp only [spec_l03Row.l0]
      rw [if_pos (by omega), if_pos (by omega), wr (x := p - 1) (by omega) (by omega), spec_l00In_eq]
      simp only [Option.bind_some]
      rw [if_neg (by rw [hq]; decide)])
    (by
      refine Ev.step (f := fun _ => some ((r.length : Int) == cols)) (fun k => ?_) ?_
      · simp only [spec_l03Row.l0]
        rw [if_neg (by omega)]
      · rw [show ((r.length : Int) == cols) = decide ((r.length : Int) = cols) from by by_cases e : (r.length : Int) = cols <;> simp [e]]
        exact Ev.now _)
  rw [range_all r (fun a => decide (0 ≤ a ∧ a ≤ p - 1)) _ (fun i hi => by simp only [rd_nat r i hi])] at h
  rw [show rowB p cols r = (if (r.all fun a => decide (0 ≤ a ∧ a ≤ p - 1)) then decide ((r.length : Int) = cols) else false) from by
    unfold rowB elemsB
    cases (r.all fun a => decide (0 ≤ a ∧ a ≤ p - 1)) <;> simp]
  exact h
theorem not_any_all {α : Type} (l : List α) (q : α → Bool) : (!(l.any fun a => !q a)) = l.all q := by
  induction l with
  | nil => rfl
  | cons a l ih => rw [List.any_cons, List.all_cons, ← ih, Bool.not_or, Bool.not_not]

end Go.Proofs.Ytlecgmhccbnmfaa.P

namespace Go.Proofs.Ytlecgmhccbnmfaa.P
open Go.RowKit Go.Proofs.YtlecgmhccbnmfaaW.PrintWords Go.Proofs.YtlecgmhccbnmfaaW.PrintLast Go.Proofs.YtlecgmhccbnmfaaW.PrintMore
attribute [local go_sem] max2_int min2_int max_two min_two max_three min_three max_four min_four
set_option linter.unusedVariables false
set_option linter.unusedSimpArgs false

/-- A loop that puts one value after another behind a list. -/
theorem build_ev {α ρ : Type} {l : Nat → Int → List α → Option ρ} (n : Nat) (f : Nat → α) {fin : ρ}
    (hgo : ∀ (i : Nat) (acc : List α), i < n → acc.length = i → ∀ r, Ev (fun k => l k ((i + 1 : Nat) : Int) (acc ++ [f i])) r → Ev (fun k => l k (i : Int) acc) r)
    (hend : Ev (fun k => l k (n : Int) ((List.range n).map f)) fin) : Ev (fun k => l k 0 []) fin := by
  have key : ∀ d i : Nat, i + d = n → Ev (fun k => l k (i : Int) ((List.range i).map f)) fin := by
    intro d
    induction d with
    | zero =>
      intro i hi
      obtain rfl : i = n := by omega
      exact hend
    | succ d ih =>
      intro i hi
      refine hgo i _ (by omega) (by simp) _ ?_
      have := ih (i + 1) (by omega)
      rwa [List.range_succ, List.map_append] at this
  exact key n 0 (by omega)
/-- The powers of a point. -/
def powRow (p x : Int) (cols : Nat) : List Int := (List.range cols).map (pw p x)
def powRows (p : Int) (pts : List Int) (cols : Nat) : List (List Int) := pts.map fun x => powRow p x cols
theorem powRows_range (p : Int) (pts : List Int) (cols : Nat) : (List.range pts.length).map (fun i => powRow p (pts.getD i 0) cols) = powRows p pts cols := by
  refine List.ext_getElem (by simp [powRows]) fun i h1 h2 => ?_
  have : i < pts.length := by simpa using h1
  simp [powRows, this]
theorem elemsB_get {p : Int} {l : List Int} (h : elemsB p l = true) (i : Nat) (hi : i < l.length) : 0 ≤ l[i] ∧ l[i] ≤ p - 1 := by
  unfold elemsB at h
  exact of_decide_eq_true (List.all_eq_true.mp h _ (List.getElem_mem hi))
theorem spec_l03Powers_ev (p : Int) (pts : List Int) (cols : Int) (hp : 2 ≤ p ∧ p ≤ 31) (he : elemsB p pts = true) (hc : 0 ≤ cols ∧ cols ≤ 12) (hl : pts.length ≤ 20) : Ev (fun k => spec_l03Powers.f k p pts cols) (p, cols, powRows p pts cols.toNat) := by
  unfold spec_l03Powers.f
  refine build_ev (l := fun k i acc => spec_l03Powers.l0 k p pts cols i p cols acc) pts.length (fun i => powRow p (pts.getD i 0) cols.toNat) (fun i acc hi ha r hr => ?_) ?_
  · have hx : pts.getD i 0 = pts[i] := by simp [hi]
    refine Ev.step (f := fun k => spec_l03Powers.l1 k p pts cols (i : Int) [] 0 p cols acc) (fun k => ?_) ?_
    · simp only [spec_l03Powers.l0]
      rw [if_pos (by omega)]
    · refine build_ev (l := fun k j row => spec_l03Powers.l1 k p pts cols (i : Int) row j p cols acc) cols.toNat (pw p pts[i]) (fun j row hj hrow r' hr' => ?_) ?_
      · refine Ev.step (f := fun k => (spec_l03Power.f k p pts[i] (j : Int)).bind fun t => spec_l03Powers.l1 k p pts cols (i : Int) (row ++ [t]) ((j + 1 : Nat) : Int) p cols acc) (fun k => ?_) (Ev.bind (spec_power_ev p pts[i] j hp (elemsB_get he i hi) (by omega)) ?_)
        · simp only [spec_l03Powers.l1]
          rw [if_pos (by omega), if_pos (by omega), if_pos (by omega), rd_nat pts i hi, wr (by omega) (by omega)]
          simp only [if_pos (show row.length < 17592186044416 by omega)]
          rfl
        · exact hr'
      · refine Ev.step (fun k => ?_) hr
        simp only [spec_l03Powers.l1]
        rw [if_neg (by omega), if_pos (by omega), wr (by omega) (by omega), hx]
        rfl
  · refine Ev.step (f := fun _ => some (p, cols, powRows p pts cols.toNat)) (fun k => ?_) (Ev.now _)
    simp only [spec_l03Powers.l0]
    rw [if_neg (by omega), powRows_range]
def powersB (p : Int) (pts : List Int) (cols : Int) : Int × Int × List (List Int) × Int := if primeB p && (decide (pts.length ≤ 20) && (decide (0 ≤ cols ∧ cols ≤ 12) && elemsB p pts)) then (p, cols, powRows p pts cols.toNat, 0) else (0, 0, [], 2)
theorem spec_PowersOf_ev (p : Int) (pts : List Int) (cols : Int) (hl : pts.length ≤ 4611686018427387904) : Ev (fun k => spec_PowersOf.f k p pts cols) (powersB p pts cols) := by
  unfold spec_PowersOf.f powersB
  refine Ev.bind (spec_IsPrime_ev p) ?_
  cases hp : primeB p with
  | false => exact Ev.now _
  | true =>
    have hr := primeB_range hp
    simp only [if_true, Bool.true_and]
    by_cases h20 : (pts.length : Int) > 20
    · simp only [if_pos h20, decide_eq_false (show ¬ pts.length ≤ 20 by omega), Bool.false_and]
      exact Ev.now _
    · simp only [if_neg h20, decide_eq_true (show pts.length ≤ 20 by omega), Bool.true_and, spec_l00In_eq, Option.bind_some]
      cases hc : decide (0 ≤ cols ∧ cols ≤ 12) with
      | false => exact Ev.now _
      | true =>
        simp only [if_true, Bool.true_and]
        refine Ev.bind (spec_l03Row_ev p (pts.length : Int) pts (by omega) hl) ?_
        rw [show rowB p (pts.length : Int) pts = elemsB p pts from by simp [rowB]]
        cases he : elemsB p pts with
        | false => exact Ev.now _
        | true =>
          simp only [if_true]
          exact Ev.bind (spec_l03Powers_ev p pts cols hr he (of_decide_eq_true hc) (by omega)) (Ev.now _)
theorem impl_PowersOf_loop (p : Int) (pts : List Int) (cols : Int) (hp : 2 ≤ p ∧ p ≤ 31) (he : elemsB p pts = true) (hc : 0 ≤ cols ∧ cols ≤ 12) (hl : pts.length ≤ 20) : Ev (fun k => impl_PowersOf.l0 k p cols pts (pts.length : Int) 0 p cols []) (p, cols, powRows p pts cols.toNat, 0) := by
  refine build_ev (l := fun k i acc => impl_PowersOf.l0 k p cols pts (pts.length : Int) i p cols acc) pts.length (fun i => powRow p (pts.getD i 0) cols.toNat) (fun i acc hi ha r hr => ?_) ?_
  · have hx : pts.getD i 0 = pts[i] := by simp [hi]
    refine Ev.step (f := fun k => impl_PowersOf.l1 k p cols pts[i] [] (pw p pts[i] (0 : Int).toNat) pts (pts.length : Int) (i : Int) cols 0 p cols acc) (fun k => ?_) ?_
    · simp only [impl_PowersOf.l0]
      rw [if_pos (by omega), if_pos (by omega), if_pos (by omega), rd_nat pts i hi]
      rfl
    · refine build_ev (l := fun k j row => impl_PowersOf.l1 k p cols pts[i] row (pw p pts[i] j.toNat) pts (pts.length : Int) (i : Int) cols j p cols acc) cols.toNat (pw p pts[i]) (fun j row hj hrow r' hr' => ?_) ?_
      · refine Ev.step (fun k => ?_) hr'
        have h3 := mul_small hp (pw_range (a := pts[i]) hp.1 j) (elemsB_get he i hi)
        simp only [impl_PowersOf.l1]
        rw [if_pos (by omega), if_pos (by omega), if_neg (by omega), Int.toNat_natCast, wr (x := pw p pts[i] j * pts[i]) (by omega) (by omega), Int.tmod_eq_emod_of_nonneg (by omega), wr (by omega) (by omega), Int.toNat_natCast]
        rfl
      · refine Ev.step (fun k => ?_) hr
        simp only [impl_PowersOf.l1]
        rw [if_neg (by omega), if_pos (by omega), wr (by omega) (by omega), hx]
        rfl
  · refine Ev.step (f := fun _ => some (p, cols, powRows p pts cols.toNat, 0)) (fun k => ?_) (Ev.now _)
    simp only [impl_PowersOf.l0]
    rw [if_neg (by omega), powRows_range]
theorem impl_PowersOf_ev (p : Int) (pts : List Int) (cols : Int) (hl : pts.length ≤ 4611686018427387904) : Ev (fun k => impl_PowersOf.f k p pts cols) (powersB p pts cols) := by
  unfold impl_PowersOf.f powersB
  have stop : Ev (fun k => impl_PowersOf.j0 k p pts cols true) (0, 0, [], 2) := Ev.step (f := fun _ => some (0, 0, [], 2)) (fun k => by simp only [impl_PowersOf.j0, if_true]) (Ev.now _)
  by_cases h20 : (pts.length : Int) > 20
  · simp only [if_pos h20, decide_eq_false (show ¬ pts.length ≤ 20 by omega), Bool.false_and, Bool.and_false]
    exact stop
  · simp only [if_neg h20, decide_eq_true (show pts.length ≤ 20 by omega), Bool.true_and]
    refine Ev.bind (impl_areElements_ev p pts hl) ?_
    cases hp : primeB p with
    | false => exact stop
    | true =>
      have hr := primeB_range hp
      cases he : elemsB p pts with
      | false => simp only [Bool.and_false]; exact stop
      | true =>
        simp only [Bool.and_true, if_true, impl_within_eq, Option.bind_some, Bool.true_and]
        cases hc : decide (0 ≤ cols ∧ cols ≤ 12) with
        | false => exact stop
        | true =>
          refine Ev.step (fun k => ?_) (impl_PowersOf_loop p pts cols hr he (of_decide_eq_true hc) (by omega))
          simp only [impl_PowersOf.j0]
          rw [if_neg (by decide)]
theorem sum_rep (n c : Nat) : (List.replicate n c).sum = n * c := by
  induction n with
  | zero => simp
  | succ n ih => rw [List.replicate_succ, List.sum_cons, ih, Nat.succ_mul, Nat.add_comm]
theorem powRows_size (p : Int) (pts : List Int) (cols : Nat) (hl : pts.length ≤ 20) (hc : cols ≤ 12) : (powRows p pts cols).length ≤ 20 ∧ (∀ r ∈ powRows p pts cols, r.length ≤ 12) ∧ allLen (powRows p pts cols) ≤ 240 := by
  have e : ∀ r ∈ powRows p pts cols, r.length = cols := by
    intro r hr
    obtain ⟨x, _, rfl⟩ := List.mem_map.mp hr
    simp [powRow]
  have e2 : (powRows p pts cols).map List.length = List.replicate pts.length cols := by
    refine List.eq_replicate_iff.mpr ⟨by simp [powRows], fun b hb => ?_⟩
    obtain ⟨r, hr, rfl⟩ := List.mem_map.mp hb
    exact e r hr
  refine ⟨by simpa [powRows] using hl, fun r hr => by rw [e r hr]; exact hc, ?_⟩
  unfold allLen
  rw [e2, sum_rep]
  calc pts.length * cols ≤ 20 * 12 := Nat.mul_le_mul hl hc
    _ = 240 := rfl
theorem powersB_size (p : Int) (pts : List Int) (cols : Int) : ∃ a b c d, powersB p pts cols = (a, b, c, d) ∧ c.length ≤ 20 ∧ (∀ r ∈ c, r.length ≤ 12) ∧ allLen c ≤ 240 := by
  unfold powersB
  cases h : primeB p && (decide (pts.length ≤ 20) && (decide (0 ≤ cols ∧ cols ≤ 12) && elemsB p pts)) with
  | false => exact ⟨0, 0, [], 2, rfl, by simp, by simp, by simp [allLen]⟩
  | true =>
    simp only [Bool.and_eq_true, decide_eq_true_eq] at h
    exact ⟨_, _, _, _, rfl, powRows_size p pts cols.toNat h.2.1 (by omega)⟩

end Go.Proofs.Ytlecgmhccbnmfaa.P

/- For all arguments the program's PowersOf and the reference's answer alike, the argument stays, and the result is memory of its own. -/
namespace Go.Proofs.Ytlecgmhccbnmfaa.Pure
open Go.RowKit Go.Proofs.Ytlecgmhccbnmfaa.P Go.Proofs.YtlecgmhccbnmfaaW.PrintWords Go.Proofs.YtlecgmhccbnmfaaW.PrintLast Go.Proofs.YtlecgmhccbnmfaaW.PrintMore
set_option linter.unusedVariables false
set_option linter.unusedSimpArgs false

theorem FnExactPowersOf : laws_FnExactPowersOf.Pure := by
  intro p l c _ _ _
  by_cases h : 1048576 < (l.length : Int)
  · exact Or.inl ⟨0, decide_eq_true h, decide_eq_true (by omega)⟩
  · have hl : l.length ≤ 1048576 := by omega
    obtain ⟨r7, r8, r9, r10, er, z1, z2, z3⟩ := powersB_size p l c
    have e1 := spec_PowersOf_ev p l c (by omega)
    have e2 := impl_PowersOf_ev p l c (by omega)
    rw [er] at e1 e2
    have z4 : ∀ r ∈ r9, r.length ≤ 1048576 := fun r hr => Nat.le_trans (z2 r hr) (by omega)
    obtain ⟨k, a1, a2, a3, a4, a5, a6, a7, a8⟩ := From.now (From.and (toInt64S_ev l hl) (From.and e1 (From.and e2 (From.and (eqMatrix_same r7 r8 r9 (by omega) z4) (From.and (eqInt64S_same l hl) (From.and (markInt64S_ev l 1 (by omega) (by omega)) (From.and (markMatrix_ev r7 r8 r9 1 (by omega) (by omega) (by omega)) (heldMatrix_ev r7 r8 r9 1 (by omega) (by omega) (by omega)))))))))
    exact Or.inr ⟨k, r7, r8, r9, r10, _, _, _, _, decide_eq_false h, decide_eq_false (by omega), a1, a2, a1, a3, a4, a1, a5, a6, decide_eq_false (by omega), a4, a7, a8, decide_eq_false (by omega), a1, a3, a4, a8, decide_eq_false (by omega)⟩

end Go.Proofs.Ytlecgmhccbnmfaa.Pure

/- The row of the law FnExactPowersOf: whatever its arguments, it answers true, and they read as before. No condition. -/
namespace Go.Proofs.Ytlecgmhccbnmfaa.fnExactPowersOf
open Go.ChangeShapes Go.WideShapes Go.ChangeAt Go.RowKit Go.Proofs.Ytlecgmhccbnmfaa.P Go.Proofs.YtlecgmhccbnmfaaW.PrintWords Go.Proofs.YtlecgmhccbnmfaaW.PrintLast Go.Proofs.YtlecgmhccbnmfaaW.PrintMore
open Go.ChangeMaps (open_string shut_string)
set_option linter.unusedVariables false
theorem own : ownKnob Try.prog.godebug = none := by kernel_rfl
theorem laidOut : laidOutB Try.prog = true := by kernel_rfl
set_option maxRecDepth 100000 in
theorem lifted (os : Os) (started : os.Started) (H : Type) (enc : TypeId × Value → H) :
    ReturnsInHanded {} Try.checked os 12 .any (Rows.fnExactPowersOfSpec.pre6 enc Try.prog Try.f12 Rows.fnExactPowersOfRow.domain false) (Rows.fnExactPowersOfSpec.post enc Try.prog Try.f12 false true false false) := by
  refine returnsInHanded_of_change_sized (C := Try.checked) own started (by kernel_rfl) Try.func12
    (ChangeSpec.witness6 (enc := enc) (C := Try.checked) false ⟨#[], #[.int .i64 0, .slice none 0 0, .int .i64 0], []⟩ 8 (by kernel_rfl) (by kernel_rfl) (by kernel_rfl) (by kernel_rfl)) ?_
  intro W base args ds gs before hval0 hW hcnd hsz0 _
  have hval : ∀ (j : Nat) t v, Try.f12.params[j]? = some t → args[j]? = some v → Value.okWide Try.prog W .any base t v := hval0
  have hW' := hW
  obtain ⟨p, q, hA0, hV, rfl, hfz, hnd⟩ := hW
  have hA : DataW.TrodAll enc Try.prog W 0 (fun _ => true) true Try.f12.params.toList args.toList ds p := hA0
  rw [Try.params12] at hA hval
  obtain ⟨v0, vs0, d0, ds0, p0, q0, hargs, rfl, rfl, h0, r0⟩ := trodAll_cons hA
  obtain ⟨v1, vs1, d1, ds1, p1, q1, rfl, rfl, rfl, h1, r1⟩ := trodAll_cons r0
  obtain ⟨v2, vs2, d2, ds2, p2, q2, rfl, rfl, rfl, h2, r2⟩ := trodAll_cons r1
  obtain ⟨rfl, rfl, rfl⟩ := trodAll_nil r2
  obtain rfl : args = #[v0, v1, v2] := by cases args; simp_all
  obtain ⟨rfl, rfl⟩ := trodVars_none hV
  obtain ⟨a0, rfl, rfl, rfl, w0⟩ := open_int Try.underlying2 (hval 0 2 v0 rfl rfl) h0
  have k1 := h1
  have lt1 : ∀ x ∈ p1, x.block < W.heap.size := by obtain ⟨m, hm⟩ := k1; exact DataW.trod_lt m _ _ _ hm
  obtain ⟨a1, len1, cap1, rfl⟩ := okWide_slice Try.underlying33 (hval 1 33 v1 rfl rfl)
  obtain ⟨l1, ⟨A1, c1, e1, b1, g1⟩, wf1⟩ := OpensAt.any (opens_slice_any Try.underlying33 (by kernel_rfl) (fun n => opens_int n Try.underlying2)) h1
  simp [Value.cells] at e1
  obtain ⟨rfl, rfl, rfl⟩ := e1
  obtain ⟨a2, rfl, rfl, rfl, w2⟩ := open_int Try.underlying2 (hval 2 2 v2 rfl rfl) h2
  clear hA0 hval0 hsz0
  refine (P.laws_FnExactPowersOf.walk Pure.FnExactPowersOf a0 l1 a2 _ _ W g1 b1 w0 wf1 w2).mono fun e W' ⟨he, bel⟩ => ?_
  subst he
  exact ⟨_, rfl, _, _, _, [], _, [], hW', trodAll_mk1 (shut_bool Try.underlying4 _), (trodAll_cons_mk (shut_int Try.underlying2 w0) (trodAll_cons_mk (Below.trod laidOut (by kernel_rfl) (of_decide_eq_true (by kernel_rfl)) k1 bel lt1) (trodAll_cons_mk (shut_int Try.underlying2 w2) trodAll_mk0))), rfl, bel.frame _, fun h => by cases h⟩
theorem over : Rows.fnExactPowersOfRow.holds Try.pinned (OpenSpec.ofChange Rows.fnExactPowersOfSpec) :=
  OpenClaim.holds_of_wide 12 Try.f12 rfl rfl rfl rfl rfl rfl rfl ⟨rfl, rfl, rfl, rfl, rfl⟩ rfl rfl rfl rfl rfl (by kernel_rfl) Try.func12 (by kernel_rfl)
    (of_decide_eq_true (by kernel_rfl)) (by unfold Func.isWrapper; first | (rw [if_pos (by decide +kernel)]; kernel_rfl) | (rw [if_neg (by decide +kernel)]; exact ⟨rfl, rfl⟩))
    (fun os started H enc _ => lifted os started H enc)
theorem proved : Rows.FnExactPowersOfSaid := over
#print axioms proved
end Go.Proofs.Ytlecgmhccbnmfaa.fnExactPowersOf
namespace Go.Proofs.Ytlecgmhccbnmfaa
/-- The row, under a short name, for the claim. -/
theorem fnExactPowersOf_holds : Rows.FnExactPowersOfSaid := fnExactPowersOf.proved
end Go.Proofs.Ytlecgmhccbnmfaa
