/- For all weights and every quota the program's WeightedFamily and the reference's answer alike, the weights stay, and the result is memory of its own. This text: the theorem of the row, and part 2 of what it rests on. -/
import Derived.Test.YtenmlpngnpjpjaaCFnExactWeightedFamilya
import Derived.Below
import Derived.Carry
import Derived.ChangeArms
import Derived.ChangeOld
import Derived.Deep.Slices
import Derived.OpenShut
import Derived.ProofKit
import Derived.Shelf.Abstract
import Derived.ShutString
import Derived.SizedLaws
import Derived.Test.YtenmlpngnpjpjaaRows
import Derived.WalkKit
import Derived.WideShapes
namespace Go.Proofs.Ytenmlpngnpjpjaa.P
open Go.RowKit Go.Proofs.YtenmlpngnpjpjaaW.PrintWords Go.Proofs.YtenmlpngnpjpjaaW.PrintLast Go.Proofs.YtenmlpngnpjpjaaW.PrintMore
attribute [local go_sem] max2_int min2_int max_two min_two max_three min_three max_four min_four
set_option linter.unusedVariables false
set_option linter.unusedSimpArgs false

theorem toInt64S_loop (l : List Int) (hl : l.length ≤ 1048576) : ∀ (d i : Nat), i + d = l.length → Ev (fun k => laws_toInt64S.l0 k l (l.take i ++ List.replicate d 0) (i : Int)) l := by
  intro d
  induction d with
  | zero =>
    intro i hi
    refine Ev.step (f := fun _ => some l) (fun k => ?_) (Ev.now _)
    simp only [laws_toInt64S.l0]
    rw [if_neg (by omega)]
    simp [List.take_of_length_le (show l.length ≤ i by omega)]
  | succ d ih =>
    intro i hi
    have hlt : i < l.length := by omega
    refine Ev.step (fun k => ?_) (ih (i + 1) (by omega))
    simp only [laws_toInt64S.l0]
    rw [if_pos (by omega), if_pos (by omega), if_pos (by simp; omega), wr (by omega) (by omega), rd_nat l i hlt]
    have e : (l.take i ++ List.replicate (d + 1) 0).set ((i : Int)).toNat l[i] = l.take (i + 1) ++ List.replicate d 0 := by
      have e0 : (l.take i).length = i := by rw [List.length_take]; omega
      rw [Int.toNat_natCast, List.set_append_right _ _ (by omega), e0, Nat.sub_self, List.replicate_succ, List.set_cons_zero, List.take_succ_eq_append_getElem hlt, List.append_assoc]
      rfl
    rw [e]
    rfl
theorem toInt64S_ev (l : List Int) (hl : l.length ≤ 1048576) : Ev (fun k => laws_toInt64S.f k l) l := by
  unfold laws_toInt64S.f
  simp only [if_pos (show (0 : Int) ≤ (l.length : Int) by omega), if_pos (show ((l.length : Int)).toNat ≤ 35184372088832 by omega)]
  have := toInt64S_loop l hl l.length 0 (by omega)
  rw [List.take_zero, List.nil_append] at this
  rw [Int.toNat_natCast]
  exact this
theorem eqInt64S_loop (a b : List Int) (hl : a.length ≤ 1048576) (hab : a.length = b.length) : ∀ (d i : Nat), i + d = a.length → Ev (fun k => laws_eqInt64S.l0 k a b (i : Int)) (decide (a.drop i = b.drop i)) := by
  intro d
  induction d with
  | zero =>
    intro i hi
    refine Ev.step (f := fun _ => some true) (fun k => ?_) ?_
    · simp only [laws_eqInt64S.l0]
      rw [if_neg (by omega)]
    · rw [List.drop_eq_nil_of_le (by omega), List.drop_eq_nil_of_le (by omega), decide_eq_true rfl]
      exact Ev.now _
  | succ d ih =>
    intro i hi
    have h1 : i < a.length := by omega
    have h2 : i < b.length := by omega
    have ed : (a.drop i = b.drop i) ↔ (a[i] = b[i] ∧ a.drop (i + 1) = b.drop (i + 1)) := by
      rw [List.drop_eq_getElem_cons h1, List.drop_eq_getElem_cons h2, List.cons.injEq]
    by_cases e : a[i] = b[i]
    · rw [show decide (a.drop i = b.drop i) = decide (a.drop (i + 1) = b.drop (i + 1)) from by simp only [ed, e, true_and]]
      refine Ev.step (fun k => ?_) (ih (i + 1) (by omega))
      simp only [laws_eqInt64S.l0]
      rw [if_pos (by omega), if_pos (by omega), if_pos (by omega), rd_nat a i h1, rd_nat b i h2, if_pos e, wr (by omega) (by omega)]
      rfl
    · refine Ev.step (f := fun _ => some false) (fun k => ?_) ?_
      · simp only [laws_eqInt64S.l0]
        rw [if_pos (by omega), if_pos (by omega), if_pos (by omega), rd_nat a i h1, rd_nat b i h2, if_neg e]
      · rw [decide_eq_false (by rw [ed]; simp [e])]
        exact Ev.now _
theorem eqInt64S_ev (a b : List Int) (hl : a.length ≤ 1048576) : Ev (fun k => laws_eqInt64S.f k a b) (decide (a = b)) := by
  unfold laws_eqInt64S.f
  by_cases h : a.length = b.length
  · simp only [if_pos (show (a.length : Int) = (b.length : Int) by omega)]
    have := eqInt64S_loop a b hl h a.length 0 (by omega)
    rw [List.drop_zero, List.drop_zero] at this
    exact this
  · simp only [if_neg (show ¬ (a.length : Int) = (b.length : Int) by omega)]
    rw [decide_eq_false (by intro e; exact h (by rw [e]))]
    exact Ev.now _
theorem eqInt64S_same (a : List Int) (hl : a.length ≤ 1048576) : Ev (fun k => laws_eqInt64S.f k a a) true := by
  have := eqInt64S_ev a a hl
  rwa [decide_eq_true rfl] at this
def before (l : List Int) (i : Nat) : Option Int := if i = 0 then none else l[i - 1]?
end Go.Proofs.Ytenmlpngnpjpjaa.P

namespace Go.Proofs.Ytenmlpngnpjpjaa.P
open Go.RowKit Go.Proofs.YtenmlpngnpjpjaaW.PrintWords Go.Proofs.YtenmlpngnpjpjaaW.PrintLast Go.Proofs.YtenmlpngnpjpjaaW.PrintMore
attribute [local go_sem] max2_int min2_int max_two min_two max_three min_three max_four min_four
set_option linter.unusedVariables false
set_option linter.unusedSimpArgs false

theorem wrapU0 : ∀ h : Fin 8, (0 : Int) ≤ IntKind.u64.wrap (h.val : Int) := by decide +kernel
theorem wrapU {h : Int} (h0 : 0 ≤ h ∧ h ≤ 7) : (0 : Int) ≤ IntKind.u64.wrap h := by
  have := wrapU0 ⟨h.toNat, by omega⟩
  rwa [show ((⟨h.toNat, by omega⟩ : Fin 8).val : Int) = h from by simp; omega] at this
/-- The order of lists. -/
def ltB : List Int → List Int → Bool
  | [], [] => false
  | [], _ :: _ => true
  | _ :: _, [] => false
  | x :: a, y :: b => if x = y then ltB a b else decide (x < y)
theorem spec_l01Before_ev (a b : List Int) (ha : a.length ≤ 4611686018427387904) (hb : b.length ≤ 4611686018427387904) : Ev (fun k => spec_l01Before.f k a b) (ltB a b) := by
  unfold spec_l01Before.f
  have key : ∀ d i : Nat, i + d = a.length → i ≤ b.length → Ev (fun k => spec_l01Before.l0 k a b (i : Int)) (ltB (a.drop i) (b.drop i)) := by
    intro d
    induction d with
    | zero =>
      intro i hi hib
      rw [List.drop_eq_nil_of_le (show a.length ≤ i by omega)]
      refine Ev.step (f := fun k => spec_l01Before.j1 k a b (i : Int) false) (fun k => ?_) (Ev.step (f := fun _ => some (decide ((a.length : Int) < (b.length : Int)))) (fun k => ?_) ?_)
      · simp only [spec_l01Before.l0]
        rw [if_neg (by omega)]
      · simp only [spec_l01Before.j1]
        rw [if_neg (by decide)]
      · by_cases hlt : i < b.length
        · rw [List.drop_eq_getElem_cons hlt, decide_eq_true (by omega)]
          exact Ev.now _
        · rw [List.drop_eq_nil_of_le (by omega), decide_eq_false (by omega)]
          exact Ev.now _
    | succ d ih =>
      intro i hi hib
      have h1 : i < a.length := by omega
      rw [List.drop_eq_getElem_cons h1]
      by_cases h2 : i < b.length
      · rw [List.drop_eq_getElem_cons h2]
        refine Ev.step (f := fun k => spec_l01Before.j1 k a b (i : Int) true) (fun k => ?_) ?_
        · simp only [spec_l01Before.l0]
          rw [if_pos (by omega), decide_eq_true (by omega)]
        · unfold ltB
          by_cases e : a[i] = b[i]
          · rw [if_pos e]
            refine Ev.step (fun k => ?_) (ih (i + 1) (by omega) (by omega))
            simp only [spec_l01Before.j1, if_true]
            rw [if_pos (by omega), if_pos (by omega), if_pos (by omega), rd_nat a i h1, rd_nat b i h2, if_pos e, wr (by omega) (by omega)]
            rfl
          · rw [if_neg e]
            refine Ev.step (f := fun _ => some (decide (a[i] < b[i]))) (fun k => ?_) (Ev.now _)
            simp only [spec_l01Before.j1, if_true]
            rw [if_pos (by omega), if_pos (by omega), if_pos (by omega), rd_nat a i h1, rd_nat b i h2, if_neg e]
      · rw [List.drop_eq_nil_of_le (show b.length ≤ i by omega)]
        refine Ev.step (f := fun k => spec_l01Before.j1 k a b (i : Int) false) (fun k => ?_) (Ev.step (f := fun _ => some (decide ((a.length : Int) < (b.length : Int)))) (fun k => ?_) ?_)
        · simp only [spec_l01Before.l0]
          rw [if_pos (by omega), decide_eq_false (by omega)]
        · simp only [spec_l01Before.j1]
          rw [if_neg (by decide)]
        · rw [decide_eq_false (by omega)]
          exact Ev.now _
  exact key a.length 0 (by omega) (by omega)
theorem cmp_lt {x y : Int} (h : x < y) : cmp_Compare_int64.f x y = some (-1) := by
  simp [cmp_Compare_int64.f, cmp_isNaN_int64.f, h]
theorem cmp_gt {x y : Int} (h : y < x) : cmp_Compare_int64.f x y = some 1 := by
  simp [cmp_Compare_int64.f, cmp_isNaN_int64.f, h]
  omega
theorem cmp_eq {x y : Int} (h : x = y) : cmp_Compare_int64.f x y = some 0 := by
  simp [cmp_Compare_int64.f, cmp_isNaN_int64.f, h]
theorem sliceCmp_ev (a b : List Int) (ha : a.length ≤ 4611686018427387904) (hb : b.length ≤ 4611686018427387904) : ∃ t : Int, Ev (fun k => slices_Compare_int64_int64.f k a b) t ∧ decide (t ≥ 0) = !ltB a b := by
  have key : ∀ d i : Nat, i + d = a.length → i ≤ b.length → ∃ t : Int, Ev (fun k => slices_Compare_int64_int64.l0 k a b a (a.length : Int) (i : Int)) t ∧ decide (t ≥ 0) = !ltB (a.drop i) (b.drop i) := by
    intro d
    induction d with
    | zero =>
      intro i hi hib
      rw [List.drop_eq_nil_of_le (show a.length ≤ i by omega)]
      by_cases hlt : i < b.length
      · refine ⟨-1, Ev.step (f := fun _ => some (-1)) (fun k => ?_) (Ev.now _), ?_⟩
        · simp only [slices_Compare_int64_int64.l0]
          rw [if_neg (by omega), if_pos (by omega)]
        · rw [List.drop_eq_getElem_cons hlt]; rfl
      · refine ⟨0, Ev.step (f := fun _ => some 0) (fun k => ?_) (Ev.now _), ?_⟩
        · simp only [slices_Compare_int64_int64.l0]
          rw [if_neg (by omega), if_neg (by omega)]
        · rw [List.drop_eq_nil_of_le (by omega)]; rfl
    | succ d ih =>
      intro i hi hib
      have h1 : i < a.length := by omega
      rw [List.drop_eq_getElem_cons h1]
      by_cases h2 : i < b.length
      · rw [List.drop_eq_getElem_cons h2]
        unfold ltB
        have one : ∀ {t : Int} {f : Nat → Option Int}, (∀ k, (cmp_Compare_int64.f a[i] b[i]).bind (fun t => if t = 0 then slices_Compare_int64_int64.l0 k a b a (a.length : Int) ((i + 1 : Nat) : Int) else some t) = f k) → Ev f t → Ev (fun k => slices_Compare_int64_int64.l0 k a b a (a.length : Int) (i : Int)) t := fun h he => by
          refine Ev.step (fun k => ?_) he
          rw [← h]
          simp only [slices_Compare_int64_int64.l0]
          rw [if_pos (by omega), if_pos (by omega), if_pos (by omega), if_neg (by omega), if_pos (by omega), rd_nat a i h1, rd_nat b i h2, wr (by omega) (by omega)]
          rfl
        by_cases e : a[i] = b[i]
        · rw [if_pos e]
          obtain ⟨t, ht, hd⟩ := ih (i + 1) (by omega) (by omega)
          refine ⟨t, one (fun k => ?_) ht, hd⟩
          rw [cmp_eq e, Option.bind_some, if_pos rfl]
        · rw [if_neg e]
          by_cases hlt : a[i] < b[i]
          · refine ⟨-1, one (f := fun _ => some (-1)) (fun k => ?_) (Ev.now _), ?_⟩
            · rw [cmp_lt hlt, Option.bind_some, if_neg (by decide)]
            · rw [decide_eq_true hlt]; rfl
          · refine ⟨1, one (f := fun _ => some 1) (fun k => ?_) (Ev.now _), ?_⟩
            · rw [cmp_gt (by omega), Option.bind_some, if_neg (by decide)]
            · rw [decide_eq_false hlt]; rfl
      · rw [List.drop_eq_nil_of_le (show b.length ≤ i by omega)]
        refine ⟨1, Ev.step (f := fun _ => some 1) (fun k => ?_) (Ev.now _), rfl⟩
        simp only [slices_Compare_int64_int64.l0]
        rw [if_pos (by omega), if_pos (by omega), if_pos (by omega), if_pos (by omega)]
  exact key a.length 0 (by omega) (by omega)

end Go.Proofs.Ytenmlpngnpjpjaa.P

namespace Go.Proofs.Ytenmlpngnpjpjaa.P
open Go.RowKit Go.Proofs.YtenmlpngnpjpjaaW.PrintWords Go.Proofs.YtenmlpngnpjpjaaW.PrintLast Go.Proofs.YtenmlpngnpjpjaaW.PrintMore
attribute [local go_sem] max2_int min2_int max_two min_two max_three min_three max_four min_four
set_option linter.unusedVariables false
set_option linter.unusedSimpArgs false

theorem perm_sorted_eq {β : Type} {r : β → β → Prop} (ha : ∀ x y, r x y → r y x → x = y) : ∀ {a b : List β}, a.Perm b → a.Pairwise r → b.Pairwise r → a = b
  | [], b, hp, _, _ => by rw [hp.symm.eq_nil]
  | x :: a, [], hp, _, _ => absurd hp.eq_nil (by simp)
  | x :: a, y :: b, hp, h1, h2 => by
    have h1' := List.pairwise_cons.1 h1
    have h2' := List.pairwise_cons.1 h2
    have e : x = y := by
      have hx : x ∈ y :: b := hp.mem_iff.1 (List.mem_cons_self ..)
      have hy : y ∈ x :: a := hp.mem_iff.2 (List.mem_cons_self ..)
      rcases List.mem_cons.1 hx with e | hx
      · exact e
      · rcases List.mem_cons.1 hy with e | hy
        · exact e.symm
        · exact ha x y (h1'.1 y hy) (h2'.1 x hx)
    subst e
    rw [perm_sorted_eq ha (List.Perm.cons_inv hp) h1'.2 h2'.2]
theorem ltL_irrefl : ∀ a : List Int, ltB a a = false
  | [] => rfl
  | x :: a => by unfold ltB; rw [if_pos rfl]; exact ltL_irrefl a
theorem ltL_trans : ∀ a b c : List Int, ltB a b = true → ltB b c = true → ltB a c = true
  | [], [], _, h, _ => by simp [ltB] at h
  | [], _ :: _, [], _, h => by simp [ltB] at h
  | [], _ :: _, _ :: _, _, _ => by simp [ltB]
  | _ :: _, [], _, h, _ => by simp [ltB] at h
  | _ :: _, _ :: _, [], _, h => by simp [ltB] at h
  | x :: a, y :: b, z :: c, h1, h2 => by
    unfold ltB at h1 h2 ⊢
    by_cases e1 : x = y
    · rw [if_pos e1] at h1
      subst e1
      by_cases e2 : x = z
      · rw [if_pos e2] at h2 ⊢
        exact ltL_trans a b c h1 h2
      · rw [if_neg e2] at h2 ⊢
        exact h2
    · rw [if_neg e1] at h1
      by_cases e2 : y = z
      · subst e2
        rw [if_neg e1]
        exact h1
      · rw [if_neg e2] at h2
        have h3 := of_decide_eq_true h1
        have h4 := of_decide_eq_true h2
        rw [if_neg (by omega)]
        exact decide_eq_true (by omega)
theorem ltL_total : ∀ a b : List Int, ltB a b = false → ltB b a = false → a = b
  | [], [], _, _ => rfl
  | [], _ :: _, h, _ => by simp [ltB] at h
  | _ :: _, [], _, h => by simp [ltB] at h
  | x :: a, y :: b, h1, h2 => by
    unfold ltB at h1 h2
    by_cases e : x = y
    · subst e
      rw [if_pos rfl] at h1 h2
      rw [ltL_total a b h1 h2]
    · rw [if_neg e] at h1
      rw [if_neg (Ne.symm e)] at h2
      have h3 := of_decide_eq_false h1
      have h4 := of_decide_eq_false h2
      exact absurd (show x = y by omega) e
theorem ltL_ntrans (a b c : List Int) (h1 : ltB a b = false) (h2 : ltB b c = false) : ltB a c = false := by
  cases h : ltB a c with
  | false => rfl
  | true =>
    cases h3 : ltB b a with
    | true => rw [ltL_trans b a c h3 h] at h2; exact absurd h2 (by decide)
    | false => rw [ltL_total a b h1 h3] at h; rw [h] at h2; exact absurd h2 (by decide)
/-- Lists in lexicographic order. -/
def sortL (gs : List (List Int)) : List (List Int) := gs.mergeSort (fun a b => !ltB b a)
theorem sortL_unique {xs ys : List (List Int)} (hp : ys.Perm xs) (hs : ys.Pairwise (fun a b => ltB b a = false)) : ys = sortL xs := by
  have h1 : (sortL xs).Perm xs := List.mergeSort_perm ..
  have h2 : (sortL xs).Pairwise (fun a b => (!ltB b a) = true) := List.pairwise_mergeSort (fun a b c hab hbc => by
    rw [Bool.not_eq_true'] at hab hbc ⊢
    exact ltL_ntrans c b a hbc hab) (fun a b => by
    cases h : ltB b a with
    | false => rfl
    | true =>
      cases h3 : ltB a b with
      | false => rfl
      | true => exact absurd (ltL_trans a b a h3 h) (by rw [ltL_irrefl]; decide)) xs
  refine perm_sorted_eq (r := fun a b => ltB b a = false) (fun x y hxy hyx => ltL_total x y hyx hxy) (hp.trans h1.symm) hs (h2.imp fun h => ?_)
  simpa using h
theorem cmpS_lt {α : Type} {l : α → List Int} {cf : α → α → Int} (hcf : ∀ x y, Ev (fun k => slices_Compare_int64_int64.f k (l x) (l y)) (cf x y) ∧ decide (cf x y ≥ 0) = !ltB (l x) (l y)) (x y : α) : Go.Proofs.ltOf cf x y = ltB (l x) (l y) := by
  have h := (hcf x y).2
  unfold Go.Proofs.ltOf
  generalize cf x y = t at h ⊢
  cases hb : ltB (l x) (l y) with
  | true => rw [hb] at h; have := of_decide_eq_false (h.trans rfl); exact decide_eq_true (by omega)
  | false => rw [hb] at h; have := of_decide_eq_true (h.trans rfl); exact decide_eq_false (by omega)
set_option maxHeartbeats 2000000 in
theorem sort_calls (ok : Nat → Prop) (blk n c : Nat) (gs : List (List Int)) (w0 w : World) (hB : Below w0.heap.size w0 w) (hS : Kd.S (Kd.slice 2 (Kd.int .i64)) 32 w w0.heap.size ok (.slice (some ⟨blk, 0, none⟩) n c) gs) (hl : ∀ g ∈ gs, g.length ≤ 4611686018427387904) (hn : gs.length < 4611686018427387904) :
    Calls Try.prog 71 #[.slice (some ⟨blk, 0, none⟩) n c, .func (.func 39) #[] #[]] w fun e w' => e = .returned (.tuple #[]) ∧ Kd.S (Kd.slice 2 (Kd.int .i64)) 32 w' w0.heap.size ok (.slice (some ⟨blk, 0, none⟩) n c) (sortL gs) ∧ Below w0.heap.size w0 w' ∧ Kept w w' (fun k => k = blk) := by
  have hn0 := (Kd.S_reads' hS).1
  have hlt := Kd.S_lt hS blk rfl
  have hge := Kd.S_base hS blk rfl
  obtain ⟨ps, rfl, hR, hel, hap⟩ := srt_open hS
  rw [List.length_map] at hn0 hn
  subst hn0
  have hgood : ∀ p ∈ ps, GoodS w w0.heap.size blk p := fun p hp => ⟨hl _ (List.mem_map_of_mem hp), Kd.R_mono (hel p hp) (fun k hk e => hk.2 (by rw [e]; rfl))⟩
  letI : Inhabited {x : Sl // GoodS w w0.heap.size blk x} := ⟨⟨slNil, goodNil _ _ _⟩⟩
  obtain ⟨d, hdv⟩ : ∃ d : Array {x : Sl // GoodS w w0.heap.size blk x}, d.toList.map Subtype.val = ps := ⟨(ps.attach.map (fun p => (⟨p.1, hgood p.1 p.2⟩ : {x : Sl // GoodS w w0.heap.size blk x}))).toArray, by simp⟩
  have hds : d.size = ps.length := by rw [← hdv, List.length_map, Array.length_toList]
  obtain ⟨cf, hcf⟩ : ∃ cf : {x : Sl // GoodS w w0.heap.size blk x} → {x : Sl // GoodS w w0.heap.size blk x} → Int, ∀ x y, Ev (fun k => slices_Compare_int64_int64.f k x.1.l y.1.l) (cf x y) ∧ decide (cf x y ≥ 0) = !ltB x.1.l y.1.l := ⟨fun x y => Classical.choose (sliceCmp_ev x.1.l y.1.l x.2.1 y.2.1), fun x y => Classical.choose_spec (sliceCmp_ev x.1.l y.1.l x.2.1 y.2.1)⟩
  have hlt2 : ∀ x y : {x : Sl // GoodS w w0.heap.size blk x}, Go.Proofs.ltOf cf x y = ltB x.1.l y.1.l := cmpS_lt (l := fun x : {x : Sl // GoodS w w0.heap.size blk x} => x.1.l) hcf
  have hO : Go.Sort.SWO (Go.Proofs.ltOf cf) := ⟨fun x => by rw [hlt2]; exact ltL_irrefl _, fun x y z h1 h2 => by rw [hlt2] at *; exact ltL_trans _ _ _ h1 h2, fun x y z h1 h2 => by rw [hlt2] at *; exact ltL_ntrans _ _ _ h1 h2⟩
  have eg : ∀ args w, (callFunc 39 args).run Try.prog w = .ok (.enter 39 args) w := enters_of Try.func39 (by kernel_rfl) rfl
  have hcmp : Go.Proofs.CmpReads Try.prog 39 #[] (fun x : {x : Sl // GoodS w w0.heap.size blk x} => x.1.enc) cf blk 0 d.size w := fun m os dk hs x y => by
    obtain ⟨k, hk⟩ := Ev.rounds (hcf x y).1
    have hx := Kd.R_reads' (Kd.R_kept x.2.2 (sw_kept (enc := fun x : {x : Sl // GoodS w w0.heap.size blk x} => x.1.enc) (w := w) (blk := blk) (m := m) (dk := dk) (os := os)) (fun k hk e => hk e))
    have hy := Kd.R_reads' (Kd.R_kept y.2.2 (sw_kept (enc := fun x : {x : Sl // GoodS w w0.heap.size blk x} => x.1.enc) (w := w) (blk := blk) (m := m) (dk := dk) (os := os)) (fun k hk e => hk e))
    exact (slices_Compare_int64_int64.calls k x.1.A x.1.c x.1.l y.1.A y.1.c y.1.l (cf x y) _ hx.2.2 hx.2.1 hy.2.2 hy.2.1 hk).mono (fun e w' ⟨he, nd, hw⟩ => ⟨he, nd, hw⟩)
  have hH : Go.Sort.Holds (fun x : {x : Sl // GoodS w w0.heap.size blk x} => x.1.enc) w blk 0 d := fun j hj => by
    have h := Kd.R_celln slNil hR (j : Int) (by omega) (by rw [hds] at hj; omega)
    have e : rdOf slNil ps (j : Int) = (d[j]!).1 := by
      unfold rdOf
      rw [List.getD_eq_getElem?_getD, ← hdv, List.getElem?_map, Int.toNat_natCast, Array.getElem?_toList, Array.getElem?_eq_getElem hj, getElem!_pos d j hj]
      rfl
    rw [e, Int.toNat_natCast] at h
    rw [Nat.zero_add]
    exact h
  have h := Go.Proofs.Any.slices_SortFunc sortLays (fun x : {x : Sl // GoodS w w0.heap.size blk x} => x.1.enc) (fun _ => rfl) cf hO 39 #[] blk 0 c d w eg hcmp.lays hH hlt (by rw [hds]; exact hn)
  rw [hds] at h
  refine Calls.mono (show Calls Try.prog 71 _ _ _ from h) ?_
  rintro e w' ⟨rfl, d', m, os, hp, hs, rfl⟩
  have hps : d'.size = ps.length := hp.1.trans hds
  have hperm : (d'.toList.map Subtype.val).Perm ps := by
    rw [← hdv]
    have h2 := hp.2.2
    rw [← hds, Array.extract_eq_self_of_le (Nat.le_refl _), hp.1.symm, Array.extract_eq_self_of_le (Nat.le_refl _)] at h2
    exact h2.map _
  have hR' := sw_row (m := m) (os := os) (val := fun x : {x : Sl // GoodS w w0.heap.size blk x} => x.1) (d := d') hR hps
  have hS' := srt_close hR' (fun p hp' => Kd.R_kept (hel p (hperm.mem_iff.1 hp')) sw_kept (fun k hk e => hk.2 (by rw [e]; rfl))) (apartS_perm hperm.symm hap)
  refine ⟨rfl, ?_, sw_below hB hge, sw_kept⟩
  rw [sortL_unique (xs := ps.map Sl.l) (ys := (d'.toList.map (fun x : {x : Sl // GoodS w w0.heap.size blk x} => x.1)).map Sl.l) (hperm.map _) ?_] at hS'
  · exact hS'
  · refine List.pairwise_map.2 (List.pairwise_map.2 (List.pairwise_iff_getElem.2 fun i j h1 h2 hij => ?_))
    rw [Array.length_toList] at h1 h2
    have h3 := hs i j (Nat.zero_le _) hij (by omega)
    rw [hlt2, getElem!_pos d' i h1, getElem!_pos d' j h2] at h3
    rw [Array.getElem_toList, Array.getElem_toList]
    exact h3

end Go.Proofs.Ytenmlpngnpjpjaa.P

namespace Go.Proofs.Ytenmlpngnpjpjaa.P
open Go.RowKit Go.Proofs.YtenmlpngnpjpjaaW.PrintWords Go.Proofs.YtenmlpngnpjpjaaW.PrintLast Go.Proofs.YtenmlpngnpjpjaaW.PrintMore
attribute [local go_sem] max2_int min2_int max_two min_two max_three min_three max_four min_four
set_option linter.unusedVariables false
set_option linter.unusedSimpArgs false

/-- A closure that is asked of a set of holders; what it captures lies in w0. -/
structure CrHyp (w0 : World) (isF : Nat → Int → Option Bool) (g : Nat) (lb : Array Value) : Prop where
  ei : ∀ args w, (callFunc g args).run Try.prog w = .ok (.enter g args) w
  call : ∀ (k : Nat) (c : Int) (r : Bool) (W : World), isF k c = some r → Below w0.heap.size w0 W → Calls Try.prog g (#[.int .u64 c] ++ lb) W fun e w' => e = .returned (.bool r) ∧ Below W.heap.size W w'
def crB.l0 (isF : Nat → Int → Option Bool) : Nat → Int → List (List Int) → Int → Option (List (List Int))
  | 0, _, _, _ => none
  | k + 1, h, out, c => (impl_everybody.f h).bind fun e => if c ≤ e then ((isF k c).bind fun b => if b = true then ((impl_crowd_group.f k c).bind fun g => if out.length < 1000 then crB.l0 isF k h (out ++ [g]) (IntKind.u64.wrap (c + 1)) else none) else crB.l0 isF k h out (IntKind.u64.wrap (c + 1))) else some out
def crOk (out : List (List Int)) : Bool := decide (out.length ≤ 1000) && out.all (fun g => decide (g.length ≤ 1000))
def crB.f (isF : Nat → Int → Option Bool) (k : Nat) (h : Int) : Option (List (List Int)) := (crB.l0 isF k h [] 0).bind fun out => if crOk out = true then some (sortL out) else none
theorem crOk_len {out : List (List Int)} (h : crOk out = true) (g : List Int) (hg : g ∈ out) : g.length ≤ 1000 := by
  unfold crOk at h
  simp only [Bool.and_eq_true, decide_eq_true_eq] at h
  exact of_decide_eq_true (List.all_eq_true.mp h.2 g hg)
theorem crOk_size {out : List (List Int)} (h : crOk out = true) : out.length ≤ 1000 := by
  unfold crOk at h
  simp only [Bool.and_eq_true, decide_eq_true_eq] at h
  exact h.1
set_option maxHeartbeats 8000000 in
set_option maxRecDepth 100000 in
theorem crB.calls {w0 : World} {isF : Nat → Int → Option Bool} {g : Nat} {lb : Array Value} (H : CrHyp w0 isF g lb) (k : Nat) (h : Int) (y : List (List Int)) (w : World) (hB : Below w0.heap.size w0 w) (hf : crB.f isF k h = some y) :
    Calls Try.prog 65 #[.int .i64 h, .func (.func g) #[] lb] w fun e w' => ∃ v, e = .returned v ∧ Kd.S (Kd.slice 2 (Kd.int .i64)) 32 w' w.heap.size (fun _ => True) v y ∧ Below w.heap.size w w' := by
  have ei := H.ei
  have HB0 := Aside0.mk hB
  have HB := Aside0.mk (Below.refl w.heap.size w)
  unfold crB.f at hf
  replace hf := Option.bind_eq_some_iff.mp hf
  obtain ⟨out0, Aout, hf⟩ := hf
  by_cases cok : crOk out0 = true
  case neg => rw [if_neg cok] at hf; exact absurd hf (by simp)
  rw [if_pos cok] at hf
  obtain rfl := Option.some.inj hf
  have COK := Aside0.mk cok
  have A1 := Aside0.mk Aout
  clear hB hf cok Aout
  go_enter Try.func65, Try.ntmps65
  go_wp2_with (first | ((with_reducible refine gate_dst (N := 7) rfl ?_); refine Kd.S_lit (Kd.slice 2 (Kd.int .i64)) _ 32 ?hg (N := 7) ?hd (xs := ([] : List (List Int))) (inner := []) (ok := fun _ => True) (okp := fun _ => True) ?hr ?hp (fun _ hk => hk) trivial (Below.refl _ _) (Nat.le_refl _) (by simp) ?_; (case hd => rfl); (case hg => rfl); (case hr => first | (go_simp; done) | (go_simp; rfl)); (case hp => exact (Reps.none _ _)); intro v7 w4 ho5 hb hg_ hnew_; clear hg_; have HNB := Aside0.mk (show ∃ b, v7.ownBlock = some b from by obtain ⟨b_, h1_, _⟩ := hnew_; exact ⟨b_, h1_⟩); clear hnew_; have HO := Aside0.mk (Kd.S_lower ho5 (below_size (by repeat (first | (with_reducible first | exact HB.out | apply below_alloc | apply pw_below_drewN | apply below_drew1) | exact HB.out)))); have n0_ := Aside0.mk (below_step (by repeat (first | (with_reducible first | exact HB.out | apply below_alloc | apply pw_below_drewN | apply below_drew1) | exact HB.out)) hb); clear HB hb ho5; have HB := n0_; clear n0_))
  go_loopg [5, 6] k (fun kq v5 v6 w' => ∃ (c : Int) (out : List (List Int)), v6 = .int .u64 c ∧ Aside0 (crB.l0 isF kq h out c = some out0) ∧ Aside0 (kq ≤ k) ∧ Aside0 (Kd.S (Kd.slice 2 (Kd.int .i64)) 32 w' w.heap.size (fun _ => True) v5 out) ∧ Aside0 (∃ b, v5.ownBlock = some b) ∧ Aside0 (Below w.heap.size w w'))
  case atStart => exact ⟨0, [], rfl, A1, ⟨Nat.le_refl _⟩, ⟨(by (with_reducible repeat (first | apply Kd.S_alloc | apply Kd.S_drewN | apply Kd.S_drew)); exact HO.out)⟩, HNB, ⟨(by repeat (first | (with_reducible first | exact HB.out | apply below_alloc | apply pw_below_drewN | apply below_drew1) | exact HB.out))⟩⟩
  case round =>
    clear A1 HO HB HNB
    obtain ⟨c, out, rfl, HA, HK1, HO, HNB, HB⟩ := hrel
    cases gk with
    | zero => exact absurd HA.out (by simp [crB.l0])
    | succ k1 =>
      have H' := HA.out
      clear HA
      simp only [crB.l0] at H'
      replace H' := Option.bind_eq_some_iff.mp H'
      obtain ⟨e, At, H'⟩ := H'
      have A3 := Aside0.mk At
      clear At
      by_cases c6 : c ≤ e
      · rw [if_pos c6] at H'
        replace H' := Option.bind_eq_some_iff.mp H'
        obtain ⟨b, At, H'⟩ := H'
        have A4 := Aside0.mk At
        clear At
        have c6b : decide (c ≤ e) = true := decide_eq_true c6
        replace c6 := Aside0.mk c6
        cases b with
        | false =>
          rw [if_neg (by decide)] at H'
          have HF := Aside0.mk H'
          clear H'
          go_wp2_with (first | (go_at_call 47; (with_reducible refine (impl_everybody.calls h e _ A3.out).mono ?_); rintro e_ w' ⟨rfl, ⟨nd, rfl⟩⟩) | (go_at_fn g; refine (H.call k1 c false _ A4.out (below_step HB0.out (by repeat (first | (with_reducible first | exact HB.out | apply below_alloc | apply pw_below_drewN | apply below_drew1) | exact HB.out)))).mono ?_; rintro e_ w6 ⟨rfl, hb⟩; have n0_ := Aside0.mk (below_step (by repeat (first | (with_reducible first | exact HB.out | apply below_alloc | apply pw_below_drewN | apply below_drew1) | exact HB.out)) hb); have n1_ := Aside0.mk (Kd.S_below (by (with_reducible repeat (first | apply Kd.S_alloc | apply Kd.S_drewN | apply Kd.S_drew)); exact HO.out) hb); clear HB HO hb; have HB := n0_; have HO := n1_; clear n0_ n1_))
          go_roundg k1
          case measure => have := HK1.out; omega
          case rel => exact ⟨_, out, rfl, HF, ⟨by have := HK1.out; omega⟩, ⟨(by (with_reducible repeat (first | apply Kd.S_alloc | apply Kd.S_drewN | apply Kd.S_drew)); exact HO.out)⟩, HNB, ⟨(by repeat (first | (with_reducible first | exact HB.out | apply below_alloc | apply pw_below_drewN | apply below_drew1) | exact HB.out))⟩⟩
        | true =>
          rw [if_pos rfl] at H'
          replace H' := Option.bind_eq_some_iff.mp H'
          obtain ⟨gr, At, H'⟩ := H'
          have A5 := Aside0.mk At
          clear At
          by_cases c8 : out.length < 1000
          case neg => rw [if_neg c8] at H'; exact absurd H' (by simp)
          rw [if_pos c8] at H'
          have LM := Aside0.mk c8
          have HF := Aside0.mk H'
          clear H' c8
          go_wp2_with (first | (go_at_call 47; (with_reducible refine (impl_everybody.calls h e _ A3.out).mono ?_); rintro e_ w' ⟨rfl, ⟨nd, rfl⟩⟩) | (go_at_fn g; refine (H.call k1 c true _ A4.out (below_step HB0.out (by repeat (first | (with_reducible first | exact HB.out | apply below_alloc | apply pw_below_drewN | apply below_drew1) | exact HB.out)))).mono ?_; rintro e_ w6 ⟨rfl, hb⟩; have n0_ := Aside0.mk (below_step (by repeat (first | (with_reducible first | exact HB.out | apply below_alloc | apply pw_below_drewN | apply below_drew1) | exact HB.out)) hb); have n1_ := Aside0.mk (Kd.S_below (by (with_reducible repeat (first | apply Kd.S_alloc | apply Kd.S_drewN | apply Kd.S_drew)); exact HO.out) hb); clear HB HO hb; have HB := n0_; have HO := n1_; clear n0_ n1_) | (go_at_call 45; (with_reducible refine (impl_crowd_group.calls k1 c gr _ A5.out).mono ?_); rintro e_ w7 ⟨vg, rfl, hr7, hb⟩; have n0_ := Aside0.mk (below_step (by repeat (first | (with_reducible first | exact HB.out | apply below_alloc | apply pw_below_drewN | apply below_drew1) | exact HB.out)) hb); have n1_ := Aside0.mk (Kd.S_elder' (by (with_reducible repeat (first | apply Kd.S_alloc | apply Kd.S_drewN | apply Kd.S_drew)); exact HO.out) (Kd.R_base hr7) hb); have HG := Aside0.mk (Kd.R_lower hr7 (below_size (by repeat (first | (with_reducible first | exact HB.out | apply below_alloc | apply pw_below_drewN | apply below_drew1) | exact HB.out)))); clear HB HO hb hr7; have HB := n0_; have HO := n1_; clear n0_ n1_; obtain ⟨Ag, cg, eg⟩ := Kd.R_slice HG.out; subst eg) | ((with_reducible refine gate_builtin (b := .append) (xs := #[.tmp 17, .tmp 20]) rfl ?_); at_builtin; refine Kd.S_append (Kd.slice 2 (Kd.int .i64)) (w0 := w) w.heap.size rfl (.tmp 17) (.tmp 20) 22 32 (.slice none 0 0) 24 rfl Try.underlying22 info32 rfl (by decide) (by omega) u5 out gr [.slice Ag gr.length cg] (fun _ => True) (fun k_ => some k_ = (.slice Ag gr.length cg : Value).ownBlock) rfl rfl ?aP (fun k_ hk_ => ((Kd.R_mono (ok' := fun k_ => True ∧ some k_ ≠ (u5 : Value).ownBlock) (Kd.R_apart' HG.out (Kd.S_typed HO.out) (by decide)) (fun k_ hk => ⟨trivial, hk.2⟩))).1 k_ hk_.symm) ?aF ?aO ?aB ?aS ?aL ?_; (case aP => exact Kd.M_row (Kd.R_mono (Kd.R_tight rfl (Kd.R_mono (ok' := fun k_ => True ∧ some k_ ≠ (u5 : Value).ownBlock) (Kd.R_apart' HG.out (Kd.S_typed HO.out) (by decide)) (fun k_ hk => ⟨trivial, hk.2⟩))) (fun _ h_ => h_))); (case aB => exact HB.out); (case aF => exact (fun _ _ => trivial)); (case aO => exact Kd.S_mono HO.out (fun k_ hk => ⟨trivial, fun e_ => hk.2 e_⟩)); (case aS => exact below_size HB.out); (case aL => have := LM.out; omega); intro v8 w8 ho hb hg hat; have HO8 := Aside0.mk ho; have HB8 := Aside0.mk hb; have HN8 : Aside0 (∃ b, v8.ownBlock = some b) := ⟨hat.elim (fun h_ => by rw [h_]; exact HNB.out) (fun ⟨b_, h_, _⟩ => ⟨b_, h_⟩)⟩; clear ho hb hg hat HO HB HNB HG))
          go_roundg k1
          case measure => have := HK1.out; omega
          case rel => exact ⟨_, out ++ [gr], rfl, HF, ⟨by have := HK1.out; omega⟩, ⟨(by (with_reducible repeat (first | apply Kd.S_alloc | apply Kd.S_drewN | apply Kd.S_drew)); exact HO8.out)⟩, HN8, ⟨(by repeat (first | (with_reducible first | exact HB8.out | apply below_alloc | apply pw_below_drewN | apply below_drew1) | exact HB8.out))⟩⟩
      · rw [if_neg c6] at H'
        obtain rfl := Option.some.inj H'
        clear H'
        have c6b : decide (c ≤ e) = false := decide_eq_false c6
        replace c6 := Aside0.mk c6
        obtain ⟨Ao, co, eo⟩ := Kd.S_slice HO.out
        subst eo
        obtain ⟨blk, hblk⟩ := HNB.out
        have eA : ∃ ad, Ao = some ad := by cases Ao with | none => simp [Value.ownBlock] at hblk | some ad => exact ⟨ad, rfl⟩
        obtain ⟨ad, eA⟩ := eA
        subst eA
        obtain ⟨blk2, eb⟩ := Kd.R_head (Kd.S_R HO.out)
        subst eb
        have eb2 : blk2 = blk := by simpa [Value.ownBlock] using hblk
        subst eb2
        clear hblk HNB
        go_wp2_with (first | (go_at_call 47; (with_reducible refine (impl_everybody.calls h e _ A3.out).mono ?_); rintro e_ w' ⟨rfl, ⟨nd, rfl⟩⟩) | (go_at_call 71; refine (sort_calls (fun _ => True) blk2 out.length co out w _ ?sB ?sS ?sl ?sn).mono ?_; (case sB => exact (by repeat (first | (with_reducible first | exact HB.out | apply below_alloc | apply pw_below_drewN | apply below_drew1) | exact HB.out))); (case sS => exact (by (with_reducible repeat (first | apply Kd.S_alloc | apply Kd.S_drewN | apply Kd.S_drew)); exact HO.out)); (case sl => exact fun q hq => by have := crOk_len COK.out q hq; omega); (case sn => have := crOk_size COK.out; omega); rintro e_ w9 ⟨rfl, hS9, hb9, hk9⟩; have HS9 := Aside0.mk hS9; have HB9 := Aside0.mk hb9; clear hS9 hb9 hk9))
        go_ret
        exact ⟨_, rfl, (by (with_reducible repeat (first | apply Kd.S_alloc | apply Kd.S_drewN | apply Kd.S_drew)); exact HS9.out), (by repeat (first | (with_reducible first | exact HB9.out | apply below_alloc | apply pw_below_drewN | apply below_drew1) | exact HB9.out))⟩
/-- A call of a closure in a region that draws its order. -/
theorem goesV_ {P : Program} {ops : Array Oper} {Q : Exit → Act → World → Prop} {oi : Oper} {N : Option Tmp} {a : Act} {w : World} {K : Act → World → Prop} {g : Nat} {x : Operand} {ars : Array Operand} {ts : Array TypeId} {lb : Array Value} (args : Array Value) (ei : ∀ args w, (callFunc g args).run P w = .ok (.enter g args) w)
    (hw : Region.wanted oi (yielded ops a.tmps) = true) (hN : oi.dst = N) (hop : oi.op = .call { callee := .value x, args := ars, argTypes := ts }) (hx : a.eval x = .func (.func g) #[] lb) (hargs : ars.map a.eval ++ lb = args)
    (h : Calls P g args w fun e w' => ∃ v, e = .returned v ∧ K (a.put N v) w') : if Region.wanted oi (yielded ops a.tmps) = true then Oper.wp P oi a w K Q else K (a.put N undef) w := by
  refine call_ g args hw hN ?_ h
  unfold execOp
  simp [hop, resolve, Deferred.ofValue, invoke, hx, hargs, ei]

end Go.Proofs.Ytenmlpngnpjpjaa.P

namespace Go.Proofs.Ytenmlpngnpjpjaa.P
open Go.RowKit Go.Proofs.YtenmlpngnpjpjaaW.PrintWords Go.Proofs.YtenmlpngnpjpjaaW.PrintLast Go.Proofs.YtenmlpngnpjpjaaW.PrintMore
attribute [local go_sem] max2_int min2_int max_two min_two max_three min_three max_four min_four
set_option linter.unusedVariables false
set_option linter.unusedSimpArgs false

def famIs.l0 (isF : Nat → Int → Option Bool) : Nat → Int → Int → Int → Option Bool
  | 0, _, _, _ => none
  | k + 1, h, c, i => if i < h then ((impl_crowd_has.f c i).bind fun t => if t = true then (if 0 ≤ i then ((isF k (Go.bits .andNot .u64 c (IntKind.u64.wrap (2 ^ min i.toNat 64)))).bind fun b => if b = true then some false else famIs.l0 isF k h c (wrap64 (i + 1))) else none) else famIs.l0 isF k h c (wrap64 (i + 1))) else some true
def famIs (isF : Nat → Int → Option Bool) (h : Int) (k : Nat) (c : Int) : Option Bool := (isF k c).bind fun b => if b = true then famIs.l0 isF k h c 0 else some false
set_option maxHeartbeats 8000000 in
set_option maxRecDepth 100000 in
theorem famIs.calls {w0 : World} {isF : Nat → Int → Option Bool} {g g2 g3 : Nat} {lb : Array Value} {h : Int} (H : CrHyp w0 isF g lb) (k : Nat) (c : Int) (r : Bool) (w : World) (hB : Below w0.heap.size w0 w) (h3 : w.heap[g3]? = some (.cells #[.func (.func g) #[] lb] 56 (0, 0))) (h2 : w.heap[g2]? = some (.cells #[.int .i64 h] 2 (0, 0))) (hf : famIs isF h k c = some r) :
    Calls Try.prog 66 (#[.int .u64 c] ++ #[.pointer (some ⟨g3, 0, none⟩), .pointer (some ⟨g2, 0, none⟩)]) w fun e w' => e = .returned (.bool r) ∧ Below w.heap.size w w' := by
  have ei := H.ei
  have HB0 := Aside0.mk hB
  have HB := Aside0.mk (Below.refl w.heap.size w)
  have B3 := Aside0.mk h3
  have B2 := Aside0.mk h2
  have hz3 : w.cell? ⟨g3, 0, none⟩ = some (.func (.func g) #[] lb) := (blk_cell B3.out 0).trans rfl
  have hz2 : w.cell? ⟨g2, 0, none⟩ = some (.int .i64 h) := (blk_cell B2.out 0).trans rfl
  clear hB h3 h2
  unfold famIs at hf
  replace hf := Option.bind_eq_some_iff.mp hf
  obtain ⟨b, At, hf⟩ := hf
  have A1 := Aside0.mk At
  clear At
  cases b with
  | false =>
    rw [if_neg (by decide)] at hf
    obtain rfl := Option.some.inj hf
    clear hf
    go_enter Try.func66, Try.ntmps66
    go_wp2_with (first | (go_at_fn g; refine (H.call k c false _ A1.out (below_step HB0.out (by repeat (first | (with_reducible first | exact HB.out | apply below_alloc | apply pw_below_drewN | apply below_drew1) | exact HB.out)))).mono ?_; rintro e_ w1 ⟨rfl, hb⟩; have n0_ := Aside0.mk (below_step (by repeat (first | (with_reducible first | exact HB.out | apply below_alloc | apply pw_below_drewN | apply below_drew1) | exact HB.out)) hb); have n1_ := Aside0.mk (blk_below (g := g3) (o := .cells #[.func (.func g) #[] lb] 56 (0, 0)) (by (with_reducible repeat (first | refine blk_drewN ?_ _ | refine blk_drew ?_ | refine blk_alloc ?_ _)); exact B3.out) hb); have n2_ := Aside0.mk (blk_below (g := g2) (o := .cells #[.int .i64 h] 2 (0, 0)) (by (with_reducible repeat (first | refine blk_drewN ?_ _ | refine blk_drew ?_ | refine blk_alloc ?_ _)); exact B2.out) hb); clear HB B3 B2 hz3 hz2 hb; have HB := n0_; have B3 := n1_; have B2 := n2_; clear n0_ n1_ n2_; have hz3 : w1.cell? ⟨g3, 0, none⟩ = some (.func (.func g) #[] lb) := (blk_cell B3.out 0).trans rfl; have hz2 : w1.cell? ⟨g2, 0, none⟩ = some (.int .i64 h) := (blk_cell B2.out 0).trans rfl))
    go_ret
    exact ⟨rfl, (by repeat (first | (with_reducible first | exact HB.out | apply below_alloc | apply pw_below_drewN | apply below_drew1) | exact HB.out))⟩
  | true =>
    rw [if_pos rfl] at hf
    have A2 := Aside0.mk hf
    clear hf
    go_enter Try.func66, Try.ntmps66
    go_wp2_with (first | (go_at_fn g; refine (H.call k c true _ A1.out (below_step HB0.out (by repeat (first | (with_reducible first | exact HB.out | apply below_alloc | apply pw_below_drewN | apply below_drew1) | exact HB.out)))).mono ?_; rintro e_ w1 ⟨rfl, hb⟩; have n0_ := Aside0.mk (below_step (by repeat (first | (with_reducible first | exact HB.out | apply below_alloc | apply pw_below_drewN | apply below_drew1) | exact HB.out)) hb); have n1_ := Aside0.mk (blk_below (g := g3) (o := .cells #[.func (.func g) #[] lb] 56 (0, 0)) (by (with_reducible repeat (first | refine blk_drewN ?_ _ | refine blk_drew ?_ | refine blk_alloc ?_ _)); exact B3.out) hb); have n2_ := Aside0.mk (blk_below (g := g2) (o := .cells #[.int .i64 h] 2 (0, 0)) (by (with_reducible repeat (first | refine blk_drewN ?_ _ | refine blk_drew ?_ | refine blk_alloc ?_ _)); exact B2.out) hb); clear HB B3 B2 hz3 hz2 hb; have HB := n0_; have B3 := n1_; have B2 := n2_; clear n0_ n1_ n2_; have hz3 : w1.cell? ⟨g3, 0, none⟩ = some (.func (.func g) #[] lb) := (blk_cell B3.out 0).trans rfl; have hz2 : w1.cell? ⟨g2, 0, none⟩ = some (.int .i64 h) := (blk_cell B2.out 0).trans rfl))
    go_loopg [11] k (fun kq v11 w' => ∃ i : Int, v11 = .int .i64 i ∧ Aside0 (famIs.l0 isF kq h c i = some r) ∧ Aside0 (kq ≤ k) ∧ Aside0 (w'.heap[g3]? = some (.cells #[.func (.func g) #[] lb] 56 (0, 0))) ∧ Aside0 (w'.heap[g2]? = some (.cells #[.int .i64 h] 2 (0, 0))) ∧ Aside0 (Below w.heap.size w w'))
    case atStart => exact ⟨0, rfl, A2, ⟨Nat.le_refl _⟩, ⟨(by (with_reducible repeat (first | refine blk_drewN ?_ _ | refine blk_drew ?_ | refine blk_alloc ?_ _)); exact B3.out)⟩, ⟨(by (with_reducible repeat (first | refine blk_drewN ?_ _ | refine blk_drew ?_ | refine blk_alloc ?_ _)); exact B2.out)⟩, ⟨(by repeat (first | (with_reducible first | exact HB.out | apply below_alloc | apply pw_below_drewN | apply below_drew1) | exact HB.out))⟩⟩
    case round =>
      clear A2 B3 B2 HB hz3 hz2
      obtain ⟨i, rfl, HA, HK1, B3, B2, HB⟩ := hrel
      have hz3 : wr.cell? ⟨g3, 0, none⟩ = some (.func (.func g) #[] lb) := (blk_cell B3.out 0).trans rfl
      have hz2 : wr.cell? ⟨g2, 0, none⟩ = some (.int .i64 h) := (blk_cell B2.out 0).trans rfl
      cases gk with
      | zero => exact absurd HA.out (by simp [famIs.l0])
      | succ k1 =>
        have H' := HA.out
        clear HA
        simp only [famIs.l0] at H'
        by_cases c6 : i < h
        · rw [if_pos c6] at H'
          replace H' := Option.bind_eq_some_iff.mp H'
          obtain ⟨t, At, H'⟩ := H'
          have A5 := Aside0.mk At
          clear At
          have c6b : decide (i < h) = true := decide_eq_true c6
          replace c6 := Aside0.mk c6
          cases t with
          | false =>
            rw [if_neg (by decide)] at H'
            have HF := Aside0.mk H'
            clear H'
            go_wp2
            have B31 := Aside0.mk (blk_drew B3.out)
            have B21 := Aside0.mk (blk_drew B2.out)
            have HB1 := Aside0.mk (below_drew1 HB.out)
            have hz31 : wr.drew.cell? ⟨g3, 0, none⟩ = some (.func (.func g) #[] lb) := (blk_cell B31.out 0).trans rfl
            clear B3 B2 HB hz3 hz2
            refine start_ (n := 11) (S := fun w' => w'.cell? ⟨g3, 0, none⟩ = some (.func (.func g) #[] lb)) (ds := []) #[false, false, false, false, false, false, false, false, false, false, false] (by kernel_rfl) rfl rfl (hz31) (fun hHeld => ?_)
            generalize wr.drew = w8x at B31 B21 HB1 hz31 hHeld ⊢
            refine pure_ (i := 0) (N := some 14) (v := ?_) (a' := ?_) #[true, false, false, false, false, false, false, false, false, false, false] rfl rfl (by kernel_rfl) (fun _ _ _ h => h) (Or.inl ⟨by rfl, ?_⟩) ?_ ?_
            rotate_left
            · intro w'
              first | (go_simp; with_reducible rfl) | (simp [go_sem, Instr.field, asAgg] <;> with_reducible rfl)
            rotate_left
            · simp only [Act.put, List.setIfInBounds_toArray, List.set_cons_zero, List.set_cons_succ, i64_w, i32_w]
              rfl
            refine pure_ (i := 1) (N := some 15) (v := ?_) (a' := ?_) #[true, true, false, false, false, false, false, false, false, false, false] rfl rfl (by kernel_rfl) (fun _ _ _ h => h) (Or.inl ⟨by rfl, ?_⟩) ?_ ?_
            rotate_left
            · intro w'
              first | (go_simp; with_reducible rfl) | (simp [go_sem, Instr.field, asAgg] <;> with_reducible rfl)
            rotate_left
            · simp only [Act.put, List.setIfInBounds_toArray, List.set_cons_zero, List.set_cons_succ, i64_w, i32_w]
              rfl
            refine one_ (i := 2) (N := some 16) #[true, true, true, false, false, false, false, false, false, false, false] rfl rfl (by kernel_rfl) (by decide) (fun K hK => ?_)
            refine goes_ Try.func62 (by kernel_rfl) rfl #[.int .u64 c, .int .i64 i] (by rfl) rfl rfl (by simp only [List.map_toArray, List.map_cons, List.map_nil]; rfl) ?_
            with_reducible refine (impl_crowd_has.calls c i false _ A5.out).mono ?_
            rintro e_ w9 ⟨rfl, ⟨nd9, rfl⟩⟩
            refine ⟨_, rfl, ?_⟩
            have B32 := Aside0.mk (blk_drewN B31.out nd9)
            have B22 := Aside0.mk (blk_drewN B21.out nd9)
            have HB2 := Aside0.mk (pw_below_drewN HB1.out nd9)
            have hz32 : (w8x.drewN nd9).cell? ⟨g3, 0, none⟩ = some (.func (.func g) #[] lb) := (blk_cell B32.out 0).trans rfl
            clear B31 B21 HB1 hz31
            refine hK.out _ _ (hz32) (fun hHeld => ?_)
            clear hK K
            refine norm_ (a' := ?_) ?_ ?_
            rotate_left
            · show Act.put _ (some 16) _ = _
              simp only [Act.put, List.setIfInBounds_toArray, List.set_cons_zero, List.set_cons_succ, i64_w, i32_w]
              rfl
            refine pure_ (i := 3) (N := some 17) (v := ?_) (a' := ?_) #[true, true, true, true, false, false, false, false, false, false, false] rfl rfl (by kernel_rfl) (fun _ _ _ h => h) (Or.inl ⟨by rfl, ?_⟩) ?_ ?_
            rotate_left
            · intro w'
              first | (go_simp; with_reducible rfl) | (simp [go_sem, Instr.field, asAgg] <;> with_reducible rfl)
            rotate_left
            · simp only [Act.put, List.setIfInBounds_toArray, List.set_cons_zero, List.set_cons_succ, i64_w, i32_w]
              rfl
            refine pure_ (i := 4) (N := some 18) (v := undef) (a' := ?_) #[true, true, true, true, true, false, false, false, false, false, false] rfl rfl (by kernel_rfl) (fun _ _ _ h => h) (Or.inr ⟨by rfl, rfl⟩) ?_ ?_
            rotate_left
            · simp only [Act.put, List.setIfInBounds_toArray, List.set_cons_zero, List.set_cons_succ, i64_w, i32_w]
              rfl
            refine pure_ (i := 5) (N := some 19) (v := undef) (a' := ?_) #[true, true, true, true, true, true, false, false, false, false, false] rfl rfl (by kernel_rfl) (fun _ _ _ h => h) (Or.inr ⟨by rfl, rfl⟩) ?_ ?_
            rotate_left
            · simp only [Act.put, List.setIfInBounds_toArray, List.set_cons_zero, List.set_cons_succ, i64_w, i32_w]
              rfl
            refine pure_ (i := 6) (N := some 20) (v := undef) (a' := ?_) #[true, true, true, true, true, true, true, false, false, false, false] rfl rfl (by kernel_rfl) (fun _ _ _ h => h) (Or.inr ⟨by rfl, rfl⟩) ?_ ?_
            rotate_left
            · simp only [Act.put, List.setIfInBounds_toArray, List.set_cons_zero, List.set_cons_succ, i64_w, i32_w]
              rfl
            refine pure_ (i := 7) (N := some 21) (v := undef) (a' := ?_) #[true, true, true, true, true, true, true, true, false, false, false] rfl rfl (by kernel_rfl) (fun _ _ _ h => h) (Or.inr ⟨by rfl, rfl⟩) ?_ ?_
            rotate_left
            · simp only [Act.put, List.setIfInBounds_toArray, List.set_cons_zero, List.set_cons_succ, i64_w, i32_w]
              rfl
            refine pure_ (i := 8) (N := some 22) (v := undef) (a' := ?_) #[true, true, true, true, true, true, true, true, true, false, false] rfl rfl (by kernel_rfl) (fun _ _ _ h => h) (Or.inr ⟨by rfl, rfl⟩) ?_ ?_
            rotate_left
            · simp only [Act.put, List.setIfInBounds_toArray, List.set_cons_zero, List.set_cons_succ, i64_w, i32_w]
              rfl
            refine pure_ (i := 9) (N := some 23) (v := undef) (a' := ?_) #[true, true, true, true, true, true, true, true, true, true, false] rfl rfl (by kernel_rfl) (fun _ _ _ h => h) (Or.inr ⟨by rfl, rfl⟩) ?_ ?_
            rotate_left
            · simp only [Act.put, List.setIfInBounds_toArray, List.set_cons_zero, List.set_cons_succ, i64_w, i32_w]
              rfl
            refine pure_ (i := 10) (N := some 24) (v := ?_) (a' := ?_) #[true, true, true, true, true, true, true, true, true, true, true] rfl rfl (by kernel_rfl) (fun _ _ _ h => h) (Or.inl ⟨by rfl, ?_⟩) ?_ ?_
            rotate_left
            · intro w'
              first | (go_simp; with_reducible rfl) | (simp [go_sem, Instr.field, asAgg] <;> with_reducible rfl)
            rotate_left
            · simp only [Act.put, List.setIfInBounds_toArray, List.set_cons_zero, List.set_cons_succ, i64_w, i32_w]
              rfl
            refine done_ (by kernel_rfl) ?_
            (try clear hHeld)
            go_wp2
            go_roundg k1
            case measure => have := HK1.out; omega
            case rel => exact ⟨_, rfl, HF, ⟨by have := HK1.out; omega⟩, ⟨(by (with_reducible repeat (first | refine blk_drewN ?_ _ | refine blk_drew ?_ | refine blk_alloc ?_ _)); exact B32.out)⟩, ⟨(by (with_reducible repeat (first | refine blk_drewN ?_ _ | refine blk_drew ?_ | refine blk_alloc ?_ _)); exact B22.out)⟩, ⟨(by repeat (first | (with_reducible first | exact HB2.out | apply below_alloc | apply pw_below_drewN | apply below_drew1) | exact HB2.out))⟩⟩
          | true =>
            rw [if_pos rfl] at H'
            by_cases c7 : 0 ≤ i
            case neg => rw [if_neg c7] at H'; exact absurd H' (by simp)
            rw [if_pos c7] at H'
            replace H' := Option.bind_eq_some_iff.mp H'
            obtain ⟨b2, At, H'⟩ := H'
            have A6 := Aside0.mk At
            clear At
            have c7b : decide (0 ≤ i) = true := decide_eq_true c7
            have c7c : decide (i < 0) = false := decide_eq_false (by omega)
            have c7d := eq_false (show ¬ i < 0 by omega)
            replace c7 := eq_true c7
            cases b2 with
            | false =>
              rw [if_neg (by decide)] at H'
              have HF := Aside0.mk H'
              clear H'
              go_wp2
              have B31 := Aside0.mk (blk_drew B3.out)
              have B21 := Aside0.mk (blk_drew B2.out)
              have HB1 := Aside0.mk (below_drew1 HB.out)
              have hz31 : wr.drew.cell? ⟨g3, 0, none⟩ = some (.func (.func g) #[] lb) := (blk_cell B31.out 0).trans rfl
              clear B3 B2 HB hz3 hz2
              refine start_ (n := 11) (S := fun w' => w'.cell? ⟨g3, 0, none⟩ = some (.func (.func g) #[] lb)) (ds := [9]) #[false, false, false, false, false, false, false, false, false, false, false] (by kernel_rfl) rfl rfl (hz31) (fun hHeld => ?_)
              generalize wr.drew = w8x at B31 B21 HB1 hz31 hHeld ⊢
              refine pure_ (i := 0) (N := some 14) (v := ?_) (a' := ?_) #[true, false, false, false, false, false, false, false, false, false, false] rfl rfl (by kernel_rfl) (fun _ _ _ h => h) (Or.inl ⟨by rfl, ?_⟩) ?_ ?_
              rotate_left
              · intro w'
                first | (go_simp; with_reducible rfl) | (simp [go_sem, Instr.field, asAgg] <;> with_reducible rfl)
              rotate_left
              · simp only [Act.put, List.setIfInBounds_toArray, List.set_cons_zero, List.set_cons_succ, i64_w, i32_w]
                rfl
              refine pure_ (i := 1) (N := some 15) (v := ?_) (a' := ?_) #[true, true, false, false, false, false, false, false, false, false, false] rfl rfl (by kernel_rfl) (fun _ _ _ h => h) (Or.inl ⟨by rfl, ?_⟩) ?_ ?_
              rotate_left
              · intro w'
                first | (go_simp; with_reducible rfl) | (simp [go_sem, Instr.field, asAgg] <;> with_reducible rfl)
              rotate_left
              · simp only [Act.put, List.setIfInBounds_toArray, List.set_cons_zero, List.set_cons_succ, i64_w, i32_w]
                rfl
              refine one_ (i := 2) (N := some 16) #[true, true, true, false, false, false, false, false, false, false, false] rfl rfl (by kernel_rfl) (by decide) (fun K hK => ?_)
              refine goes_ Try.func62 (by kernel_rfl) rfl #[.int .u64 c, .int .i64 i] (by rfl) rfl rfl (by simp only [List.map_toArray, List.map_cons, List.map_nil]; rfl) ?_
              with_reducible refine (impl_crowd_has.calls c i true _ A5.out).mono ?_
              rintro e_ w9 ⟨rfl, ⟨nd9, rfl⟩⟩
              refine ⟨_, rfl, ?_⟩
              have B32 := Aside0.mk (blk_drewN B31.out nd9)
              have B22 := Aside0.mk (blk_drewN B21.out nd9)
              have HB2 := Aside0.mk (pw_below_drewN HB1.out nd9)
              have hz32 : (w8x.drewN nd9).cell? ⟨g3, 0, none⟩ = some (.func (.func g) #[] lb) := (blk_cell B32.out 0).trans rfl
              clear B31 B21 HB1 hz31
              refine hK.out _ _ (hz32) (fun hHeld => ?_)
              clear hK K
              refine norm_ (a' := ?_) ?_ ?_
              rotate_left
              · show Act.put _ (some 16) _ = _
                simp only [Act.put, List.setIfInBounds_toArray, List.set_cons_zero, List.set_cons_succ, i64_w, i32_w]
                rfl
              refine pure_ (i := 3) (N := some 17) (v := ?_) (a' := ?_) #[true, true, true, true, false, false, false, false, false, false, false] rfl rfl (by kernel_rfl) (fun _ _ _ h => h) (Or.inl ⟨by rfl, ?_⟩) ?_ ?_
              rotate_left
              · intro w'
                first | (go_simp; with_reducible rfl) | (simp [go_sem, Instr.field, asAgg] <;> with_reducible rfl)
              rotate_left
              · simp only [Act.put, List.setIfInBounds_toArray, List.set_cons_zero, List.set_cons_succ, i64_w, i32_w]
                rfl
              refine pure_ (i := 5) (N := some 19) (v := ?_) (a' := ?_) #[true, true, true, true, false, true, false, false, false, false, false] rfl rfl (by kernel_rfl) (fun _ _ _ h => h) (Or.inl ⟨by rfl, ?_⟩) ?_ ?_
              rotate_left
              · intro w'
                first | (go_simp; with_reducible rfl) | (simp [go_sem, Instr.field, asAgg] <;> with_reducible rfl)
              rotate_left
              · simp only [Act.put, List.setIfInBounds_toArray, List.set_cons_zero, List.set_cons_succ, i64_w, i32_w]
                rfl
              refine pure_ (i := 6) (N := some 20) (v := ?_) (a' := ?_) #[true, true, true, true, false, true, true, false, false, false, false] rfl rfl (by kernel_rfl) (fun _ _ _ h => h) (Or.inl ⟨by rfl, ?_⟩) ?_ ?_
              rotate_left
              · intro w'
                first | (go_simp; with_reducible rfl) | (simp [go_sem, Instr.field, asAgg] <;> with_reducible rfl)
              rotate_left
              · simp only [Act.put, List.setIfInBounds_toArray, List.set_cons_zero, List.set_cons_succ, i64_w, i32_w]
                rfl
              refine pure_ (i := 7) (N := some 21) (v := ?_) (a' := ?_) #[true, true, true, true, false, true, true, true, false, false, false] rfl rfl (by kernel_rfl) (fun _ _ _ h => h) (Or.inl ⟨by rfl, ?_⟩) ?_ ?_
              rotate_left
              · intro w'
                first | (go_simp; with_reducible rfl) | (simp [go_sem, Instr.field, asAgg] <;> with_reducible rfl)
              rotate_left
              · simp only [Act.put, List.setIfInBounds_toArray, List.set_cons_zero, List.set_cons_succ, i64_w, i32_w]
                rfl
              refine pure_ (i := 8) (N := some 22) (v := ?_) (a' := ?_) #[true, true, true, true, false, true, true, true, true, false, false] rfl rfl (by kernel_rfl) (fun _ _ _ h => h) (Or.inl ⟨by rfl, ?_⟩) ?_ ?_
              rotate_left
              · intro w'
                first | (go_simp; with_reducible rfl) | (simp [go_sem, Instr.field, asAgg] <;> with_reducible rfl)
              rotate_left
              · simp only [Act.put, List.setIfInBounds_toArray, List.set_cons_zero, List.set_cons_succ, i64_w, i32_w]
                rfl
              refine take_ (i := 4) (N := some 18) (v := ?_) (a' := ?_) #[true, true, true, true, true, true, true, true, true, false, false] rfl rfl (by kernel_rfl) (fun _ _ _ h => h) (Or.inl ⟨by rfl, ?_⟩) hHeld ?_ ?_
              rotate_left
              · intro w' s0
                go_simp
                with_reducible rfl
              rotate_left
              · simp only [Act.put, List.setIfInBounds_toArray, List.set_cons_zero, List.set_cons_succ, i64_w, i32_w]
                rfl
              refine last_ (i := 9) (N := some 23) #[true, true, true, true, true, true, true, true, true, true, false] rfl rfl (by kernel_rfl) (by decide) (fun K hK => ?_)
              refine goesV_ (#[.int .u64 (Go.bits .andNot .u64 c (IntKind.u64.wrap (2 ^ min i.toNat 64)))] ++ lb) ei (by kernel_rfl) rfl rfl (by rfl) (by simp only [List.map_toArray, List.map_cons, List.map_nil]; rfl) ?_
              refine (H.call k1 (Go.bits .andNot .u64 c (IntKind.u64.wrap (2 ^ min i.toNat 64))) false _ A6.out (below_step HB0.out (show Below w.heap.size w _ from (by repeat (first | (with_reducible first | exact HB2.out | apply below_alloc | apply pw_below_drewN | apply below_drew1) | exact HB2.out))))).mono ?_
              rintro e_ w10 ⟨rfl, hb⟩
              refine ⟨_, rfl, ?_⟩
              have n0_ := Aside0.mk (below_step (by repeat (first | (with_reducible first | exact HB2.out | apply below_alloc | apply pw_below_drewN | apply below_drew1) | exact HB2.out)) hb)
              have n1_ := Aside0.mk (blk_below (g := g3) (o := .cells #[.func (.func g) #[] lb] 56 (0, 0)) (by (with_reducible repeat (first | refine blk_drewN ?_ _ | refine blk_drew ?_ | refine blk_alloc ?_ _)); exact B32.out) hb)
              have n2_ := Aside0.mk (blk_below (g := g2) (o := .cells #[.int .i64 h] 2 (0, 0)) (by (with_reducible repeat (first | refine blk_drewN ?_ _ | refine blk_drew ?_ | refine blk_alloc ?_ _)); exact B22.out) hb)
              clear HB2 B32 B22 hz32 hb
              refine hK.out _ _ ?_
              clear hK K
              refine norm_ (a' := ?_) ?_ ?_
              rotate_left
              · show Act.put _ (some 23) _ = _
                simp only [Act.put, List.setIfInBounds_toArray, List.set_cons_zero, List.set_cons_succ, i64_w, i32_w]
                rfl
              refine pure_ (i := 10) (N := some 24) (v := ?_) (a' := ?_) #[true, true, true, true, true, true, true, true, true, true, true] rfl rfl (by kernel_rfl) (fun _ _ _ h => h) (Or.inl ⟨by rfl, ?_⟩) ?_ ?_
              rotate_left
              · intro w'
                first | (go_simp; with_reducible rfl) | (simp [go_sem, Instr.field, asAgg] <;> with_reducible rfl)
              rotate_left
              · simp only [Act.put, List.setIfInBounds_toArray, List.set_cons_zero, List.set_cons_succ, i64_w, i32_w]
                rfl
              refine done_ (by kernel_rfl) ?_
              (try clear hHeld)
              go_wp2
              go_roundg k1
              case measure => have := HK1.out; omega
              case rel => exact ⟨_, rfl, HF, ⟨by have := HK1.out; omega⟩, ⟨(by (with_reducible repeat (first | refine blk_drewN ?_ _ | refine blk_drew ?_ | refine blk_alloc ?_ _)); exact n1_.out)⟩, ⟨(by (with_reducible repeat (first | refine blk_drewN ?_ _ | refine blk_drew ?_ | refine blk_alloc ?_ _)); exact n2_.out)⟩, ⟨(by repeat (first | (with_reducible first | exact n0_.out | apply below_alloc | apply pw_below_drewN | apply below_drew1) | exact n0_.out))⟩⟩
            | true =>
              rw [if_pos rfl] at H'
              obtain rfl := Option.some.inj H'
              clear H'
              go_wp2
              have B31 := Aside0.mk (blk_drew B3.out)
              have B21 := Aside0.mk (blk_drew B2.out)
              have HB1 := Aside0.mk (below_drew1 HB.out)
              have hz31 : wr.drew.cell? ⟨g3, 0, none⟩ = some (.func (.func g) #[] lb) := (blk_cell B31.out 0).trans rfl
              clear B3 B2 HB hz3 hz2
              refine start_ (n := 11) (S := fun w' => w'.cell? ⟨g3, 0, none⟩ = some (.func (.func g) #[] lb)) (ds := [9]) #[false, false, false, false, false, false, false, false, false, false, false] (by kernel_rfl) rfl rfl (hz31) (fun hHeld => ?_)
              generalize wr.drew = w8x at B31 B21 HB1 hz31 hHeld ⊢
              refine pure_ (i := 0) (N := some 14) (v := ?_) (a' := ?_) #[true, false, false, false, false, false, false, false, false, false, false] rfl rfl (by kernel_rfl) (fun _ _ _ h => h) (Or.inl ⟨by rfl, ?_⟩) ?_ ?_
              rotate_left
              · intro w'
                first | (go_simp; with_reducible rfl) | (simp [go_sem, Instr.field, asAgg] <;> with_reducible rfl)
              rotate_left
              · simp only [Act.put, List.setIfInBounds_toArray, List.set_cons_zero, List.set_cons_succ, i64_w, i32_w]
                rfl
              refine pure_ (i := 1) (N := some 15) (v := ?_) (a' := ?_) #[true, true, false, false, false, false, false, false, false, false, false] rfl rfl (by kernel_rfl) (fun _ _ _ h => h) (Or.inl ⟨by rfl, ?_⟩) ?_ ?_
              rotate_left
              · intro w'
                first | (go_simp; with_reducible rfl) | (simp [go_sem, Instr.field, asAgg] <;> with_reducible rfl)
              rotate_left
              · simp only [Act.put, List.setIfInBounds_toArray, List.set_cons_zero, List.set_cons_succ, i64_w, i32_w]
                rfl
              refine one_ (i := 2) (N := some 16) #[true, true, true, false, false, false, false, false, false, false, false] rfl rfl (by kernel_rfl) (by decide) (fun K hK => ?_)
              refine goes_ Try.func62 (by kernel_rfl) rfl #[.int .u64 c, .int .i64 i] (by rfl) rfl rfl (by simp only [List.map_toArray, List.map_cons, List.map_nil]; rfl) ?_
              with_reducible refine (impl_crowd_has.calls c i true _ A5.out).mono ?_
              rintro e_ w9 ⟨rfl, ⟨nd9, rfl⟩⟩
              refine ⟨_, rfl, ?_⟩
              have B32 := Aside0.mk (blk_drewN B31.out nd9)
              have B22 := Aside0.mk (blk_drewN B21.out nd9)
              have HB2 := Aside0.mk (pw_below_drewN HB1.out nd9)
              have hz32 : (w8x.drewN nd9).cell? ⟨g3, 0, none⟩ = some (.func (.func g) #[] lb) := (blk_cell B32.out 0).trans rfl
              clear B31 B21 HB1 hz31
              refine hK.out _ _ (hz32) (fun hHeld => ?_)
              clear hK K
              refine norm_ (a' := ?_) ?_ ?_
              rotate_left
              · show Act.put _ (some 16) _ = _
                simp only [Act.put, List.setIfInBounds_toArray, List.set_cons_zero, List.set_cons_succ, i64_w, i32_w]
                rfl
              refine pure_ (i := 3) (N := some 17) (v := ?_) (a' := ?_) #[true, true, true, true, false, false, false, false, false, false, false] rfl rfl (by kernel_rfl) (fun _ _ _ h => h) (Or.inl ⟨by rfl, ?_⟩) ?_ ?_
              rotate_left
              · intro w'
                first | (go_simp; with_reducible rfl) | (simp [go_sem, Instr.field, asAgg] <;> with_reducible rfl)
              rotate_left
              · simp only [Act.put, List.setIfInBounds_toArray, List.set_cons_zero, List.set_cons_succ, i64_w, i32_w]
                rfl
              refine pure_ (i := 5) (N := some 19) (v := ?_) (a' := ?_) #[true, true, true, true, false, true, false, false, false, false, false] rfl rfl (by kernel_rfl) (fun _ _ _ h => h) (Or.inl ⟨by rfl, ?_⟩) ?_ ?_
              rotate_left
              · intro w'
                first | (go_simp; with_reducible rfl) | (simp [go_sem, Instr.field, asAgg] <;> with_reducible rfl)
              rotate_left
              · simp only [Act.put, List.setIfInBounds_toArray, List.set_cons_zero, List.set_cons_succ, i64_w, i32_w]
                rfl
              refine pure_ (i := 6) (N := some 20) (v := ?_) (a' := ?_) #[true, true, true, true, false, true, true, false, false, false, false] rfl rfl (by kernel_rfl) (fun _ _ _ h => h) (Or.inl ⟨by rfl, ?_⟩) ?_ ?_
              rotate_left
              · intro w'
                first | (go_simp; with_reducible rfl) | (simp [go_sem, Instr.field, asAgg] <;> with_reducible rfl)
              rotate_left
              · simp only [Act.put, List.setIfInBounds_toArray, List.set_cons_zero, List.set_cons_succ, i64_w, i32_w]
                rfl
              refine pure_ (i := 7) (N := some 21) (v := ?_) (a' := ?_) #[true, true, true, true, false, true, true, true, false, false, false] rfl rfl (by kernel_rfl) (fun _ _ _ h => h) (Or.inl ⟨by rfl, ?_⟩) ?_ ?_
              rotate_left
              · intro w'
                first | (go_simp; with_reducible rfl) | (simp [go_sem, Instr.field, asAgg] <;> with_reducible rfl)
              rotate_left
              · simp only [Act.put, List.setIfInBounds_toArray, List.set_cons_zero, List.set_cons_succ, i64_w, i32_w]
                rfl
              refine pure_ (i := 8) (N := some 22) (v := ?_) (a' := ?_) #[true, true, true, true, false, true, true, true, true, false, false] rfl rfl (by kernel_rfl) (fun _ _ _ h => h) (Or.inl ⟨by rfl, ?_⟩) ?_ ?_
              rotate_left
              · intro w'
                first | (go_simp; with_reducible rfl) | (simp [go_sem, Instr.field, asAgg] <;> with_reducible rfl)
              rotate_left
              · simp only [Act.put, List.setIfInBounds_toArray, List.set_cons_zero, List.set_cons_succ, i64_w, i32_w]
                rfl
              refine take_ (i := 4) (N := some 18) (v := ?_) (a' := ?_) #[true, true, true, true, true, true, true, true, true, false, false] rfl rfl (by kernel_rfl) (fun _ _ _ h => h) (Or.inl ⟨by rfl, ?_⟩) hHeld ?_ ?_
              rotate_left
              · intro w' s0
                go_simp
                with_reducible rfl
              rotate_left
              · simp only [Act.put, List.setIfInBounds_toArray, List.set_cons_zero, List.set_cons_succ, i64_w, i32_w]
                rfl
              refine last_ (i := 9) (N := some 23) #[true, true, true, true, true, true, true, true, true, true, false] rfl rfl (by kernel_rfl) (by decide) (fun K hK => ?_)
              refine goesV_ (#[.int .u64 (Go.bits .andNot .u64 c (IntKind.u64.wrap (2 ^ min i.toNat 64)))] ++ lb) ei (by kernel_rfl) rfl rfl (by rfl) (by simp only [List.map_toArray, List.map_cons, List.map_nil]; rfl) ?_
              refine (H.call k1 (Go.bits .andNot .u64 c (IntKind.u64.wrap (2 ^ min i.toNat 64))) true _ A6.out (below_step HB0.out (show Below w.heap.size w _ from (by repeat (first | (with_reducible first | exact HB2.out | apply below_alloc | apply pw_below_drewN | apply below_drew1) | exact HB2.out))))).mono ?_
              rintro e_ w10 ⟨rfl, hb⟩
              refine ⟨_, rfl, ?_⟩
              have n0_ := Aside0.mk (below_step (by repeat (first | (with_reducible first | exact HB2.out | apply below_alloc | apply pw_below_drewN | apply below_drew1) | exact HB2.out)) hb)
              have n1_ := Aside0.mk (blk_below (g := g3) (o := .cells #[.func (.func g) #[] lb] 56 (0, 0)) (by (with_reducible repeat (first | refine blk_drewN ?_ _ | refine blk_drew ?_ | refine blk_alloc ?_ _)); exact B32.out) hb)
              have n2_ := Aside0.mk (blk_below (g := g2) (o := .cells #[.int .i64 h] 2 (0, 0)) (by (with_reducible repeat (first | refine blk_drewN ?_ _ | refine blk_drew ?_ | refine blk_alloc ?_ _)); exact B22.out) hb)
              clear HB2 B32 B22 hz32 hb
              refine hK.out _ _ ?_
              clear hK K
              refine norm_ (a' := ?_) ?_ ?_
              rotate_left
              · show Act.put _ (some 23) _ = _
                simp only [Act.put, List.setIfInBounds_toArray, List.set_cons_zero, List.set_cons_succ, i64_w, i32_w]
                rfl
              refine pure_ (i := 10) (N := some 24) (v := ?_) (a' := ?_) #[true, true, true, true, true, true, true, true, true, true, true] rfl rfl (by kernel_rfl) (fun _ _ _ h => h) (Or.inl ⟨by rfl, ?_⟩) ?_ ?_
              rotate_left
              · intro w'
                first | (go_simp; with_reducible rfl) | (simp [go_sem, Instr.field, asAgg] <;> with_reducible rfl)
              rotate_left
              · simp only [Act.put, List.setIfInBounds_toArray, List.set_cons_zero, List.set_cons_succ, i64_w, i32_w]
                rfl
              refine done_ (by kernel_rfl) ?_
              (try clear hHeld)
              go_wp2
              go_ret
              exact ⟨rfl, (by repeat (first | (with_reducible first | exact n0_.out | apply below_alloc | apply pw_below_drewN | apply below_drew1) | exact n0_.out))⟩
        · rw [if_neg c6] at H'
          obtain rfl := Option.some.inj H'
          clear H'
          have c6b : decide (i < h) = false := decide_eq_false c6
          clear c6
          go_wp2
          go_ret
          exact ⟨rfl, (by repeat (first | (with_reducible first | exact HB.out | apply below_alloc | apply pw_below_drewN | apply below_drew1) | exact HB.out))⟩
theorem famIs.hyp {w0 : World} {isF : Nat → Int → Option Bool} {g g2 g3 : Nat} {lb : Array Value} {h : Int} {w1 : World} (H : CrHyp w0 isF g lb) (hB : Below w0.heap.size w0 w1) (h3 : w1.heap[g3]? = some (.cells #[.func (.func g) #[] lb] 56 (0, 0))) (h2 : w1.heap[g2]? = some (.cells #[.int .i64 h] 2 (0, 0))) : CrHyp w1 (famIs isF h) 66 #[.pointer (some ⟨g3, 0, none⟩), .pointer (some ⟨g2, 0, none⟩)] where
  ei := enters_of Try.func66 (by kernel_rfl) rfl
  call := fun k c r W hf hW => famIs.calls H k c r W (below_step hB hW) ((hW.block _ (blk_lt h3)).trans h3) ((hW.block _ (blk_lt h2)).trans h2) hf

end Go.Proofs.Ytenmlpngnpjpjaa.P

namespace Go.Proofs.Ytenmlpngnpjpjaa.P
open Go.RowKit Go.Proofs.YtenmlpngnpjpjaaW.PrintWords Go.Proofs.YtenmlpngnpjpjaaW.PrintLast Go.Proofs.YtenmlpngnpjpjaaW.PrintMore
attribute [local go_sem] max2_int min2_int max_two min_two max_three min_three max_four min_four
set_option linter.unusedVariables false
set_option linter.unusedSimpArgs false

set_option maxHeartbeats 8000000 in
set_option maxRecDepth 100000 in
theorem famOf.calls {w0 : World} {isF : Nat → Int → Option Bool} {g : Nat} {lb : Array Value} (H : CrHyp w0 isF g lb) (k : Nat) (h : Int) (y : List (List Int)) (w : World) (hB : Below w0.heap.size w0 w) (hf : crB.f (famIs isF h) k h = some y) :
    Calls Try.prog 52 #[.int .i64 h, .func (.func g) #[] lb] w fun e w' => ∃ v, e = .returned (.agg #[.int .i64 h, v]) ∧ Kd.S (Kd.slice 2 (Kd.int .i64)) 32 w' w.heap.size (fun _ => True) v y ∧ Below w.heap.size w w' := by
  have hu27 := Try.underlying27
  have HB0 := Aside0.mk hB
  have HB := Aside0.mk (Below.refl w.heap.size w)
  have A1 := Aside0.mk hf
  clear hB hf
  go_enter Try.func52, Try.ntmps52
  go_wp2_with (first | ((with_reducible refine gate_dst (N := 2) rfl ?_); refine box_event ?hg (N := 2) ?hd (cs := #[.int .i64 h]) (t := 2) ?hr ?_; (case hd => rfl); (case hg => rfl); (case hr => first | (go_simp; done) | (go_simp; rfl)); intro g2 hg w1 hbox hb; have n0_ := Aside0.mk (below_step (by repeat (first | (with_reducible first | exact HB.out | apply below_alloc | apply pw_below_drewN | apply below_drew1) | exact HB.out)) hb); have GW_g2 := Aside0.mk ((by rw [hg]; exact below_size (by repeat (first | (with_reducible first | exact HB.out | apply below_alloc | apply pw_below_drewN | apply below_drew1) | exact HB.out))) : w.heap.size ≤ g2); clear HB ; have HB := n0_; clear n0_; have B2 := Aside0.mk hbox; clear hbox hb hg) | ((with_reducible refine gate_dst (N := 3) rfl ?_); refine box_event ?hg (N := 3) ?hd (cs := #[.func (.func g) #[] lb]) (t := 56) ?hr ?_; (case hd => rfl); (case hg => rfl); (case hr => first | (go_simp; done) | (go_simp; rfl)); intro g3 hg w2 hbox hb; have n0_ := Aside0.mk (below_step (by repeat (first | (with_reducible first | exact HB.out | apply below_alloc | apply pw_below_drewN | apply below_drew1) | exact HB.out)) hb); have GW_g3 := Aside0.mk ((by rw [hg]; exact below_size (by repeat (first | (with_reducible first | exact HB.out | apply below_alloc | apply pw_below_drewN | apply below_drew1) | exact HB.out))) : w.heap.size ≤ g3); have m0_ := Aside0.mk (blk_below (g := g2) (o := .cells #[.int .i64 h] 2 (0, 0)) (by (with_reducible repeat (first | refine blk_drewN ?_ _ | refine blk_drew ?_ | refine blk_alloc ?_ _)); exact B2.out) hb); clear HB B2; have HB := n0_; clear n0_; have B2 := m0_; clear m0_; have B3 := Aside0.mk hbox; clear hbox hb hg) | ((with_reducible refine gate_dst (N := 4) rfl ?_); refine box_event ?hg (N := 4) ?hd (cs := #[.int .i64 0, .slice none 0 0]) (t := 27) ?hr ?_; (case hd => rfl); (case hg => rfl); (case hr => first | (go_simp; done) | (go_simp; rfl)); intro g4 hg w3 hbox hb; have n0_ := Aside0.mk (below_step (by repeat (first | (with_reducible first | exact HB.out | apply below_alloc | apply pw_below_drewN | apply below_drew1) | exact HB.out)) hb); have GW_g4 := Aside0.mk ((by rw [hg]; exact below_size (by repeat (first | (with_reducible first | exact HB.out | apply below_alloc | apply pw_below_drewN | apply below_drew1) | exact HB.out))) : w.heap.size ≤ g4); have m0_ := Aside0.mk (blk_below (g := g2) (o := .cells #[.int .i64 h] 2 (0, 0)) (by (with_reducible repeat (first | refine blk_drewN ?_ _ | refine blk_drew ?_ | refine blk_alloc ?_ _)); exact B2.out) hb); have m1_ := Aside0.mk (blk_below (g := g3) (o := .cells #[.func (.func g) #[] lb] 56 (0, 0)) (by (with_reducible repeat (first | refine blk_drewN ?_ _ | refine blk_drew ?_ | refine blk_alloc ?_ _)); exact B3.out) hb); clear HB B2 B3; have HB := n0_; clear n0_; have B2 := m0_; clear m0_; have B3 := m1_; clear m1_; have B4 := Aside0.mk hbox; clear hbox hb hg))
  have B21 := Aside0.mk (blk_drew B2.out)
  have B31 := Aside0.mk (blk_drew B3.out)
  have B41 := Aside0.mk (blk_drew B4.out)
  have HB1 := Aside0.mk (below_drew1 HB.out)
  clear B2 B3 B4 HB
  refine start_ (n := 6) (S := fun w' => w'.cell? ⟨g2, 0, none⟩ = some (.int .i64 h)) (ds := [5]) #[false, false, false, false, false, false] (by kernel_rfl) rfl rfl ((blk_cell B21.out 0).trans rfl) (fun hHeld => ?_)
  generalize w3.drew = w8x at B21 B31 B41 HB1 hHeld ⊢
  refine pure_ (i := 2) (N := some 7) (v := ?_) (a' := ?_) #[false, false, true, false, false, false] rfl rfl (by kernel_rfl) (fun _ _ _ h => h) (Or.inl ⟨by rfl, ?_⟩) ?_ ?_
  rotate_left
  · intro w'
    first | (go_simp; with_reducible rfl) | (simp [go_sem, Instr.field, asAgg] <;> with_reducible rfl)
  rotate_left
  · simp only [Act.put, List.setIfInBounds_toArray, List.set_cons_zero, List.set_cons_succ, i64_w, i32_w]
    rfl
  refine take_ (i := 0) (N := some 5) (v := ?_) (a' := ?_) #[true, false, true, false, false, false] rfl rfl (by kernel_rfl) (fun _ _ _ h => h) (Or.inl ⟨by rfl, ?_⟩) hHeld ?_ ?_
  rotate_left
  · intro w' s0
    go_simp
    with_reducible rfl
  rotate_left
  · simp only [Act.put, List.setIfInBounds_toArray, List.set_cons_zero, List.set_cons_succ, i64_w, i32_w]
    rfl
  refine take_ (i := 1) (N := some 6) (v := ?_) (a' := ?_) #[true, true, true, false, false, false] rfl rfl (by kernel_rfl) (fun _ _ _ h => h) (Or.inl ⟨by rfl, ?_⟩) hHeld ?_ ?_
  rotate_left
  · intro w' s0
    go_simp
    with_reducible rfl
  rotate_left
  · simp only [Act.put, List.setIfInBounds_toArray, List.set_cons_zero, List.set_cons_succ, i64_w, i32_w]
    rfl
  refine one_ (i := 3) (N := some 8) #[true, true, true, true, false, false] rfl rfl (by kernel_rfl) (by decide) (fun K hK => ?_)
  refine goes_ Try.func65 (by kernel_rfl) rfl #[.int .i64 h, .func (.func 66) #[] #[.pointer (some ⟨g3, 0, none⟩), .pointer (some ⟨g2, 0, none⟩)]] (by rfl) rfl rfl (by simp only [List.map_toArray, List.map_cons, List.map_nil]; rfl) ?_
  with_reducible refine (crB.calls (famIs.hyp H (below_step HB0.out HB1.out) B31.out B21.out) k h y w8x (Below.refl _ _) A1.out).mono ?_
  rintro e_ w9 ⟨v, rfl, hS, hb⟩
  refine ⟨_, rfl, ?_⟩
  have HS := Aside0.mk (Kd.S_lower (base' := w.heap.size) (Kd.S_mono (Kd.S_bound hS) (ok' := fun k_ => k_ ≠ g4) (fun k_ hk_ => by have h1_ := hk_.2.1; have h2_ := blk_lt (o := .cells #[.int .i64 0, .slice none 0 0] 27 (0, 0)) B41.out; omega)) (below_size HB1.out))
  have B42 := Aside0.mk (blk_below (g := g4) (o := .cells #[.int .i64 0, .slice none 0 0] 27 (0, 0)) B41.out hb)
  have B22 := Aside0.mk (blk_below (g := g2) (o := .cells #[.int .i64 h] 2 (0, 0)) B21.out hb)
  have HB2 := Aside0.mk (below_step HB1.out hb)
  clear hS hb B21 B31 B41 HB1
  obtain ⟨Av, cv, ev⟩ := Kd.S_slice HS.out
  subst ev
  have hz40 : w9.cell? ⟨g4, 0, none⟩ = some (.int .i64 0) := (blk_cell B42.out 0).trans rfl
  have hz41 : w9.cell? ⟨g4, 1, none⟩ = some (.slice none 0 0) := (blk_cell B42.out 1).trans rfl
  have hz4f0 := blk_frozen B42.out 0
  have hz4f1 := blk_frozen B42.out 1
  refine hK.out _ _ ((blk_cell B22.out 0).trans rfl) (fun hHeld => ?_)
  clear hK K
  refine norm_ (a' := ?_) ?_ ?_
  rotate_left
  · show Act.put _ (some 8) _ = _
    simp only [Act.put, List.setIfInBounds_toArray, List.set_cons_zero, List.set_cons_succ, i64_w, i32_w]
    rfl
  refine one_ (i := 4) (N := some 9) #[true, true, true, true, true, false] rfl rfl (by kernel_rfl) (by decide) (fun K hK => ?_)
  refine value_ (w1 := ?_) (v := ?_) (by rfl) rfl ?_ ?_
  rotate_left 2
  · go_simp
    constructor
    · rfl
    · rfl
  refine hK.out _ _ ((blk_cell B22.out 0).trans rfl) (fun hHeld => ?_)
  clear hK K
  refine norm_ (a' := ?_) ?_ ?_
  rotate_left
  · show Act.put _ (some 9) _ = _
    simp only [Act.put, List.setIfInBounds_toArray, List.set_cons_zero, List.set_cons_succ, i64_w, i32_w]
    rfl
  refine last_ (i := 5) (N := none) #[true, true, true, true, true, true] rfl rfl (by kernel_rfl) (by decide) (fun K hK => ?_)
  refine skip_ (w1 := ?_) (by rfl) rfl ?_ ?_
  rotate_left
  · go_simp
    rfl
  refine hK.out _ _ ?_
  clear hK K
  refine done_ (by kernel_rfl) ?_
  (try clear hHeld)
  (try go_wp2)
  refine bodyPost_ret (results_cell_row rfl _ _ g4 27 #[.int .i64 h, .slice Av y.length cv] (0, 0) _ rfl (by (with_reducible repeat (first | refine blk_drewN ?_ _ | refine blk_drew ?_ | refine blk_alloc ?_ _)); refine blk_put (cs := #[.int .i64 h, .slice none 0 0]) ?_ 1 _ rfl; (with_reducible repeat (first | refine blk_drewN ?_ _ | refine blk_drew ?_ | refine blk_alloc ?_ _)); refine blk_put (cs := #[.int .i64 0, .slice none 0 0]) ?_ 0 _ rfl; (with_reducible repeat (first | refine blk_drewN ?_ _ | refine blk_drew ?_ | refine blk_alloc ?_ _)); exact B42.out) Try.underlying27 rfl (by kernel_rfl)) rfl ?_
  exact ⟨_, rfl, Kd.S_mono (Kd.S_far (p := ⟨g4, 1, none⟩) (Kd.S_far (p := ⟨g4, 0, none⟩) HS.out (fun _ hk => hk) _) (fun _ hk => hk) _) (fun _ _ => trivial), (by repeat (first | (with_reducible first | exact HB2.out | apply below_alloc | apply pw_below_drewN | apply below_drew1 | refine below_set ?_ GW_g4.out) | exact HB2.out))⟩

end Go.Proofs.Ytenmlpngnpjpjaa.P

namespace Go.Proofs.Ytenmlpngnpjpjaa.P
open Go.RowKit Go.Proofs.YtenmlpngnpjpjaaW.PrintWords Go.Proofs.YtenmlpngnpjpjaaW.PrintLast Go.Proofs.YtenmlpngnpjpjaaW.PrintMore
attribute [local go_sem] max2_int min2_int max_two min_two max_three min_three max_four min_four
set_option linter.unusedVariables false
set_option linter.unusedSimpArgs false

def weiP (x : Int) : Option Bool := (impl_within.f x 0 1000).bind fun t => some (!t)
set_option maxHeartbeats 8000000 in
set_option maxRecDepth 100000 in
theorem weiP.calls (x : Int) (b : Bool) (w : World) (h : weiP x = some b) :
    Calls Try.prog 51 #[.int .i64 x] w fun e w' => e = .returned (.bool b) ∧ Below w.heap.size w w' := by
  have HB := Aside0.mk (Below.refl w.heap.size w)
  unfold weiP at h
  replace h := Option.bind_eq_some_iff.mp h
  obtain ⟨t, At, h⟩ := h
  have A1 := Aside0.mk At
  clear At
  obtain rfl := Option.some.inj h
  clear h
  go_enter Try.func51, Try.ntmps51
  go_wp2_with (first | (go_at_call 37; (with_reducible refine (impl_within.calls x 0 1000 t _ A1.out).mono ?_); rintro e_ w5 ⟨rfl, ⟨nd5, rfl⟩⟩))
  go_ret
  exact ⟨rfl, (by repeat (first | (with_reducible first | exact HB.out | apply below_alloc | apply pw_below_drewN | apply below_drew1) | exact HB.out))⟩
def weiS : Nat → List Int → List Int → Int → Int → Option Int
  | 0, _, _, _, _ => none
  | k + 1, gr, ws, s, i => if i < (gr.length : Int) then (if 0 ≤ i then (if 0 ≤ rd gr i then (if rd gr i < (ws.length : Int) then weiS k gr ws (wrap64 (s + rd ws (rd gr i))) (wrap64 (i + 1)) else none) else none) else none) else some s
def weiIs (ws : List Int) (quota : Int) (k : Nat) (c : Int) : Option Bool := (impl_crowd_group.f k c).bind fun gr => (weiS k gr ws 0 0).bind fun s => some (decide (s ≥ quota))
set_option maxHeartbeats 8000000 in
set_option maxRecDepth 100000 in
theorem weiIs.calls (ws : List Int) (quota : Int) (A : Option Addr) (cw : Nat) (k : Nat) (c : Int) (r : Bool) (w : World) (g2 g3 : Nat) (hr : Kd.C (Kd.int .i64) w A ws.length ws) (h2 : w.heap[g2]? = some (.cells #[.slice A ws.length cw] 32 (0, 0))) (h3 : w.heap[g3]? = some (.cells #[.int .i64 quota] 2 (0, 0))) (hf : weiIs ws quota k c = some r) :
    Calls Try.prog 53 (#[.int .u64 c] ++ #[.pointer (some ⟨g2, 0, none⟩), .pointer (some ⟨g3, 0, none⟩)]) w fun e w' => e = .returned (.bool r) ∧ Below w.heap.size w w' := by
  have HB := Aside0.mk (Below.refl w.heap.size w)
  have HW := Aside0.mk hr
  have B2 := Aside0.mk h2
  have B3 := Aside0.mk h3
  clear hr h2 h3
  unfold weiIs at hf
  replace hf := Option.bind_eq_some_iff.mp hf
  obtain ⟨gr, At, hf⟩ := hf
  have A1 := Aside0.mk At
  clear At
  replace hf := Option.bind_eq_some_iff.mp hf
  obtain ⟨s0, At, hf⟩ := hf
  have A2 := Aside0.mk At
  clear At
  obtain rfl := Option.some.inj hf
  clear hf
  go_enter Try.func53, Try.ntmps53
  go_wp2_with (first | (go_at_call 45; (with_reducible refine (impl_crowd_group.calls k c gr _ A1.out).mono ?_); rintro e_ w7 ⟨vg, rfl, hr7, hb⟩; have n0_ := Aside0.mk (below_step (by repeat (first | (with_reducible first | exact HB.out | apply below_alloc | apply pw_below_drewN | apply below_drew1) | exact HB.out)) hb); have HG := Aside0.mk (Kd.R_lower hr7 (below_size (by repeat (first | (with_reducible first | exact HB.out | apply below_alloc | apply pw_below_drewN | apply below_drew1) | exact HB.out)))); clear HB hb hr7; have HB := n0_; clear n0_; obtain ⟨Ag, cg, eg⟩ := Kd.R_slice HG.out; subst eg))
  go_loopg [5, 11] k (fun kq v5 v11 w' => ∃ (s i : Int), v5 = .int .i64 s ∧ v11 = .int .i64 i ∧ Aside0 (weiS kq gr ws s i = some s0) ∧ Aside0 (kq ≤ k) ∧ Aside0 (Kd.R (Kd.int .i64) 2 w' w.heap.size (fun _ => True) (.slice Ag gr.length cg) gr) ∧ Aside0 (Below w.heap.size w w'))
  case atStart => exact ⟨0, 0, rfl, rfl, A2, ⟨Nat.le_refl _⟩, ⟨(by (with_reducible repeat (first | apply Kd.R_alloc | apply Kd.R_drewN | apply Kd.R_drew)); exact HG.out)⟩, ⟨(by repeat (first | (with_reducible first | exact HB.out | apply below_alloc | apply pw_below_drewN | apply below_drew1) | exact HB.out))⟩⟩
  case round =>
    clear A2 HG HB
    obtain ⟨s, i, rfl, rfl, HA, HK1, HG, HB⟩ := hrel
    cases gk with
    | zero => exact absurd HA.out (by simp [weiS])
    | succ k1 =>
      have H' := HA.out
      clear HA
      simp only [weiS] at H'
      by_cases c6 : i < (gr.length : Int)
      · rw [if_pos c6] at H'
        by_cases c7 : 0 ≤ i
        case neg => rw [if_neg c7] at H'; exact absurd H' (by simp)
        rw [if_pos c7] at H'
        by_cases c8 : 0 ≤ rd gr i
        case neg => rw [if_neg c8] at H'; exact absurd H' (by simp)
        rw [if_pos c8] at H'
        by_cases c9 : rd gr i < (ws.length : Int)
        case neg => rw [if_neg c9] at H'; exact absurd H' (by simp)
        rw [if_pos c9] at H'
        have HF := Aside0.mk H'
        clear H'
        obtain ⟨adg, e3, hxg⟩ := Kd.at_int (Kd.R_reads' HG.out).2.2 i c7 c6
        cases e3
        obtain ⟨adw, e4, hxw⟩ := Kd.at_int (Kd.C_below HW.out HB.out) (rd gr i) c8 c9
        cases e4
        have hz2 : wr.cell? ⟨g2, 0, none⟩ = some (.slice (some adw) ws.length cw) := (HB.out.cell (World.block_lt_of_cell? w _ ((blk_cell B2.out 0).trans rfl))).trans ((blk_cell B2.out 0).trans rfl)
        have hz3 : wr.cell? ⟨g3, 0, none⟩ = some (.int .i64 quota) := (HB.out.cell (World.block_lt_of_cell? w _ ((blk_cell B3.out 0).trans rfl))).trans ((blk_cell B3.out 0).trans rfl)
        have d6 : decide (i < (gr.length : Int)) = true := decide_eq_true c6
        have d7 : decide (0 ≤ i) = true := decide_eq_true c7
        have d8 : decide (0 ≤ rd gr i) = true := decide_eq_true c8
        have d9 : decide (rd gr i < (ws.length : Int)) = true := decide_eq_true c9
        replace c6 := eq_true c6
        replace c7 := eq_true c7
        replace c8 := eq_true c8
        replace c9 := eq_true c9
        go_wp2
        go_roundg k1
        case measure => have := HK1.out; omega
        case rel => exact ⟨_, _, rfl, rfl, HF, ⟨by have := HK1.out; omega⟩, ⟨(by (with_reducible repeat (first | apply Kd.R_alloc | apply Kd.R_drewN | apply Kd.R_drew)); exact HG.out)⟩, ⟨(by repeat (first | (with_reducible first | exact HB.out | apply below_alloc | apply pw_below_drewN | apply below_drew1) | exact HB.out))⟩⟩
      · rw [if_neg c6] at H'
        obtain rfl := Option.some.inj H'
        clear H'
        have d6 : decide (i < (gr.length : Int)) = false := decide_eq_false c6
        clear c6
        have hz2 : wr.cell? ⟨g2, 0, none⟩ = some (.slice A ws.length cw) := (HB.out.cell (World.block_lt_of_cell? w _ ((blk_cell B2.out 0).trans rfl))).trans ((blk_cell B2.out 0).trans rfl)
        have hz3 : wr.cell? ⟨g3, 0, none⟩ = some (.int .i64 quota) := (HB.out.cell (World.block_lt_of_cell? w _ ((blk_cell B3.out 0).trans rfl))).trans ((blk_cell B3.out 0).trans rfl)
        go_wp2
        go_ret
        exact ⟨rfl, (by repeat (first | (with_reducible first | exact HB.out | apply below_alloc | apply pw_below_drewN | apply below_drew1) | exact HB.out))⟩
theorem weiIs.hyp {w1 : World} {ws : List Int} {quota : Int} {A : Option Addr} {cw g2 g3 : Nat} (hr : Kd.C (Kd.int .i64) w1 A ws.length ws) (h2 : w1.heap[g2]? = some (.cells #[.slice A ws.length cw] 32 (0, 0))) (h3 : w1.heap[g3]? = some (.cells #[.int .i64 quota] 2 (0, 0))) : CrHyp w1 (weiIs ws quota) 53 #[.pointer (some ⟨g2, 0, none⟩), .pointer (some ⟨g3, 0, none⟩)] where
  ei := enters_of Try.func53 (by kernel_rfl) rfl
  call := fun k c r W hf hW => weiIs.calls ws quota A cw k c r W g2 g3 (Kd.C_below hr hW) ((hW.block _ (blk_lt h2)).trans h2) ((hW.block _ (blk_lt h3)).trans h3) hf

end Go.Proofs.Ytenmlpngnpjpjaa.P

namespace Go.Proofs.Ytenmlpngnpjpjaa.P
open Go.RowKit Go.Proofs.YtenmlpngnpjpjaaW.PrintWords Go.Proofs.YtenmlpngnpjpjaaW.PrintLast Go.Proofs.YtenmlpngnpjpjaaW.PrintMore
attribute [local go_sem] max2_int min2_int max_two min_two max_three min_three max_four min_four
set_option linter.unusedVariables false
set_option linter.unusedSimpArgs false

/-! ### impl_WeightedFamily: function 26 (by hand) -/
def impl_WeightedFamily.f (k : Nat) (l0 : List Int) (a1 : Int) : Option (Int × List (List Int) × Int) := (impl_within.f (l0.length : Int) 1 7).bind fun t => if t = true then ((hasI.f k weiP l0).bind fun b => if b = true then some (0, [], 2) else ((impl_within.f a1 0 7001).bind fun u => if u = true then ((crB.f (famIs (weiIs l0 a1) (l0.length : Int)) k (l0.length : Int)).bind fun y => some ((l0.length : Int), y, 0)) else some (0, [], 2))) else some (0, [], 2)
set_option maxHeartbeats 8000000 in
set_option maxRecDepth 100000 in
theorem impl_WeightedFamily.calls (k : Nat) (A0 : Option Addr) (c0 : Nat) (l0 : List Int) (a1 : Int) (r1 : Int) (r2 : List (List Int)) (r3 : Int) (w : World) (hr0 : Kd.C (Kd.int .i64) w A0 l0.length l0) (hc0 : l0.length ≤ c0) (h : impl_WeightedFamily.f k l0 a1 = some (r1, r2, r3)) :
    Calls Try.prog 26 #[.slice A0 l0.length c0, .int .i64 a1] w fun e w' => ∃ v1_ : Value, e = .returned (.tuple #[.agg #[.int .i64 r1, v1_], .int .i64 r3]) ∧ Kd.S (Kd.slice 2 (Kd.int .i64)) 32 w' w.heap.size (fun _ => True) v1_ r2 ∧ Below w.heap.size w w' := by
  have hu27 := Try.underlying27
  have HB := Aside0.mk (Below.refl w.heap.size w)
  have HR := Aside0.mk hr0
  have eg : ∀ args w, (callFunc 51 args).run Try.prog w = .ok (.enter 51 args) w := enters_of Try.func51 (by kernel_rfl) rfl
  have H := h
  clear h hr0
  unfold impl_WeightedFamily.f at H
  replace H := Option.bind_eq_some_iff.mp H
  obtain ⟨t, At, H⟩ := H
  have A3 := Aside0.mk At
  clear At
  by_cases c4 : t = true
  · subst c4
    rw [if_pos rfl] at H
    replace H := Option.bind_eq_some_iff.mp H
    obtain ⟨b, At, H⟩ := H
    have A4 := Aside0.mk At
    clear At
    by_cases c5 : b = true
    · subst c5
      rw [if_pos rfl] at H
      simp only [Option.some.injEq, Prod.mk.injEq] at H
      obtain ⟨rfl, rfl, rfl⟩ := H
      go_enter Try.func26, Try.ntmps26
      go_wp2_with (first | ((with_reducible refine gate_dst (N := 2) rfl ?_); refine box_event ?hg (N := 2) ?hd (cs := #[.slice A0 l0.length c0]) (t := 32) ?hr ?_; (case hd => rfl); (case hg => rfl); (case hr => first | (go_simp; done) | (go_simp; rfl)); intro g2 hg w1 hbox hb; have n0_ := Aside0.mk (below_step (by repeat (first | (with_reducible first | exact HB.out | apply below_alloc | apply pw_below_drewN | apply below_drew1) | exact HB.out)) hb); have GW_g2 := Aside0.mk ((by rw [hg]; exact below_size (by repeat (first | (with_reducible first | exact HB.out | apply below_alloc | apply pw_below_drewN | apply below_drew1) | exact HB.out))) : w.heap.size ≤ g2); clear HB ; have HB := n0_; clear n0_; have B2 := Aside0.mk hbox; clear hbox hb hg; have hz20 : w1.cell? ⟨g2, 0, none⟩ = some (.slice A0 l0.length c0) := (blk_cell B2.out 0).trans rfl; have hz2f0 := blk_frozen B2.out 0) | ((with_reducible refine gate_dst (N := 3) rfl ?_); refine box_event ?hg (N := 3) ?hd (cs := #[.int .i64 a1]) (t := 2) ?hr ?_; (case hd => rfl); (case hg => rfl); (case hr => first | (go_simp; done) | (go_simp; rfl)); intro g3 hg w2 hbox hb; have n0_ := Aside0.mk (below_step (by repeat (first | (with_reducible first | exact HB.out | apply below_alloc | apply pw_below_drewN | apply below_drew1) | exact HB.out)) hb); have GW_g3 := Aside0.mk ((by rw [hg]; exact below_size (by repeat (first | (with_reducible first | exact HB.out | apply below_alloc | apply pw_below_drewN | apply below_drew1) | exact HB.out))) : w.heap.size ≤ g3); have m0_ := Aside0.mk (blk_below (g := g2) (o := .cells #[.slice A0 l0.length c0] 32 (0, 0)) (by (with_reducible repeat (first | refine blk_drewN ?_ _ | refine blk_drew ?_ | refine blk_alloc ?_ _)); exact B2.out) hb); clear HB B2; have HB := n0_; clear n0_; have B2 := m0_; clear m0_; have B3 := Aside0.mk hbox; clear hbox hb hg; clear hz20 hz2f0; have hz20 : w2.cell? ⟨g2, 0, none⟩ = some (.slice A0 l0.length c0) := (blk_cell B2.out 0).trans rfl; have hz2f0 := blk_frozen B2.out 0; have hz30 : w2.cell? ⟨g3, 0, none⟩ = some (.int .i64 a1) := (blk_cell B3.out 0).trans rfl; have hz3f0 := blk_frozen B3.out 0) | ((with_reducible refine gate_dst (N := 4) rfl ?_); refine box_event ?hg (N := 4) ?hd (cs := #[.int .i64 0, .slice none 0 0]) (t := 27) ?hr ?_; (case hd => rfl); (case hg => rfl); (case hr => first | (go_simp; done) | (go_simp; rfl)); intro g4 hg w3 hbox hb; have n0_ := Aside0.mk (below_step (by repeat (first | (with_reducible first | exact HB.out | apply below_alloc | apply pw_below_drewN | apply below_drew1) | exact HB.out)) hb); have GW_g4 := Aside0.mk ((by rw [hg]; exact below_size (by repeat (first | (with_reducible first | exact HB.out | apply below_alloc | apply pw_below_drewN | apply below_drew1) | exact HB.out))) : w.heap.size ≤ g4); have m0_ := Aside0.mk (blk_below (g := g2) (o := .cells #[.slice A0 l0.length c0] 32 (0, 0)) (by (with_reducible repeat (first | refine blk_drewN ?_ _ | refine blk_drew ?_ | refine blk_alloc ?_ _)); exact B2.out) hb); have m1_ := Aside0.mk (blk_below (g := g3) (o := .cells #[.int .i64 a1] 2 (0, 0)) (by (with_reducible repeat (first | refine blk_drewN ?_ _ | refine blk_drew ?_ | refine blk_alloc ?_ _)); exact B3.out) hb); clear HB B2 B3; have HB := n0_; clear n0_; have B2 := m0_; clear m0_; have B3 := m1_; clear m1_; have B4 := Aside0.mk hbox; clear hbox hb hg; clear hz20 hz2f0 hz30 hz3f0; have hz20 : w3.cell? ⟨g2, 0, none⟩ = some (.slice A0 l0.length c0) := (blk_cell B2.out 0).trans rfl; have hz2f0 := blk_frozen B2.out 0; have hz30 : w3.cell? ⟨g3, 0, none⟩ = some (.int .i64 a1) := (blk_cell B3.out 0).trans rfl; have hz3f0 := blk_frozen B3.out 0; have hz40 : w3.cell? ⟨g4, 0, none⟩ = some (.int .i64 0) := (blk_cell B4.out 0).trans rfl; have hz4f0 := blk_frozen B4.out 0; have hz41 : w3.cell? ⟨g4, 1, none⟩ = some (.slice none 0 0) := (blk_cell B4.out 1).trans rfl; have hz4f1 := blk_frozen B4.out 1) | (go_at_call 37; (with_reducible refine (impl_within.calls (l0.length : Int) 1 7 true _ A3.out).mono ?_); rintro e_ w5 ⟨rfl, ⟨nd5, rfl⟩⟩) | (go_at_call 50; (with_reducible refine (hasI.calls k weiP 51 #[] eg A0 c0 l0 true _ ?sC ?sP A4.out).mono ?_); (case sC => exact Kd.C_below HR.out (by repeat (first | (with_reducible first | exact HB.out | apply below_alloc | apply pw_below_drewN | apply below_drew1) | exact HB.out))); (case sP => exact fun W x_ b_ hx_ hW_ => (weiP.calls x_ b_ W hx_).mono (fun e_ w_ h_ => ⟨h_.1, below_step hW_ h_.2⟩)); rintro e_ w7 ⟨rfl, hb⟩; have m2_ := Aside0.mk (blk_below (g := g2) (o := .cells #[.slice A0 l0.length c0] 32 (0, 0)) (by (with_reducible repeat (first | refine blk_drewN ?_ _ | refine blk_drew ?_ | refine blk_alloc ?_ _)); exact B2.out) hb); have m3_ := Aside0.mk (blk_below (g := g3) (o := .cells #[.int .i64 a1] 2 (0, 0)) (by (with_reducible repeat (first | refine blk_drewN ?_ _ | refine blk_drew ?_ | refine blk_alloc ?_ _)); exact B3.out) hb); have m4_ := Aside0.mk (blk_below (g := g4) (o := .cells #[.int .i64 0, .slice none 0 0] 27 (0, 0)) (by (with_reducible repeat (first | refine blk_drewN ?_ _ | refine blk_drew ?_ | refine blk_alloc ?_ _)); exact B4.out) hb); have n0_ := Aside0.mk (below_step (by repeat (first | (with_reducible first | exact HB.out | apply below_alloc | apply pw_below_drewN | apply below_drew1) | exact HB.out)) hb); clear hb B2 B3 B4 HB hz20 hz2f0 hz30 hz3f0 hz40 hz4f0 hz41 hz4f1; have HB := n0_; have B2 := m2_; have B3 := m3_; have B4 := m4_; clear n0_ m2_ m3_ m4_; have hz20 : w7.cell? ⟨g2, 0, none⟩ = some (.slice A0 l0.length c0) := (blk_cell B2.out 0).trans rfl; have hz2f0 := blk_frozen B2.out 0; have hz30 : w7.cell? ⟨g3, 0, none⟩ = some (.int .i64 a1) := (blk_cell B3.out 0).trans rfl; have hz3f0 := blk_frozen B3.out 0; have hz40 : w7.cell? ⟨g4, 0, none⟩ = some (.int .i64 0) := (blk_cell B4.out 0).trans rfl; have hz4f0 := blk_frozen B4.out 0; have hz41 : w7.cell? ⟨g4, 1, none⟩ = some (.slice none 0 0) := (blk_cell B4.out 1).trans rfl; have hz4f1 := blk_frozen B4.out 1))
      refine bodyPost_ret (results_ct rfl _ _ g4 27 #[.int .i64 0, .slice none 0 0] (0, 0) _ rfl (by (with_reducible repeat (first | refine blk_drewN ?_ _ | refine blk_drew ?_ | refine blk_alloc ?_ _)); refine blk_put (cs := #[.int .i64 0, .slice none 0 0]) ?_ 1 _ rfl; (with_reducible repeat (first | refine blk_drewN ?_ _ | refine blk_drew ?_ | refine blk_alloc ?_ _)); refine blk_put (cs := #[.int .i64 0, .slice none 0 0]) ?_ 0 _ rfl; (with_reducible repeat (first | refine blk_drewN ?_ _ | refine blk_drew ?_ | refine blk_alloc ?_ _)); exact B4.out) Try.underlying27 rfl (by kernel_rfl)) rfl ?_
      exact ⟨_, rfl, Kd.S_nil _ _ _ _ _, (by repeat (first | (with_reducible first | exact HB.out | apply below_alloc | apply pw_below_drewN | apply below_drew1 | refine below_set ?_ GW_g4.out) | exact HB.out))⟩
    · replace c5 := Bool.eq_false_iff.mpr c5
      subst c5
      rw [if_neg (show ¬ (false = true) by decide)] at H
      replace H := Option.bind_eq_some_iff.mp H
      obtain ⟨u, At, H⟩ := H
      have A5 := Aside0.mk At
      clear At
      by_cases c6 : u = true
      · subst c6
        rw [if_pos rfl] at H
        replace H := Option.bind_eq_some_iff.mp H
        obtain ⟨y, At, H⟩ := H
        have A6 := Aside0.mk At
        clear At
        simp only [Option.some.injEq, Prod.mk.injEq] at H
        obtain ⟨rfl, rfl, rfl⟩ := H
        go_enter Try.func26, Try.ntmps26
        go_wp2_with (first | ((with_reducible refine gate_dst (N := 2) rfl ?_); refine box_event ?hg (N := 2) ?hd (cs := #[.slice A0 l0.length c0]) (t := 32) ?hr ?_; (case hd => rfl); (case hg => rfl); (case hr => first | (go_simp; done) | (go_simp; rfl)); intro g2 hg w1 hbox hb; have n0_ := Aside0.mk (below_step (by repeat (first | (with_reducible first | exact HB.out | apply below_alloc | apply pw_below_drewN | apply below_drew1) | exact HB.out)) hb); have GW_g2 := Aside0.mk ((by rw [hg]; exact below_size (by repeat (first | (with_reducible first | exact HB.out | apply below_alloc | apply pw_below_drewN | apply below_drew1) | exact HB.out))) : w.heap.size ≤ g2); clear HB ; have HB := n0_; clear n0_; have B2 := Aside0.mk hbox; clear hbox hb hg; have hz20 : w1.cell? ⟨g2, 0, none⟩ = some (.slice A0 l0.length c0) := (blk_cell B2.out 0).trans rfl; have hz2f0 := blk_frozen B2.out 0) | ((with_reducible refine gate_dst (N := 3) rfl ?_); refine box_event ?hg (N := 3) ?hd (cs := #[.int .i64 a1]) (t := 2) ?hr ?_; (case hd => rfl); (case hg => rfl); (case hr => first | (go_simp; done) | (go_simp; rfl)); intro g3 hg w2 hbox hb; have n0_ := Aside0.mk (below_step (by repeat (first | (with_reducible first | exact HB.out | apply below_alloc | apply pw_below_drewN | apply below_drew1) | exact HB.out)) hb); have GW_g3 := Aside0.mk ((by rw [hg]; exact below_size (by repeat (first | (with_reducible first | exact HB.out | apply below_alloc | apply pw_below_drewN | apply below_drew1) | exact HB.out))) : w.heap.size ≤ g3); have m0_ := Aside0.mk (blk_below (g := g2) (o := .cells #[.slice A0 l0.length c0] 32 (0, 0)) (by (with_reducible repeat (first | refine blk_drewN ?_ _ | refine blk_drew ?_ | refine blk_alloc ?_ _)); exact B2.out) hb); clear HB B2; have HB := n0_; clear n0_; have B2 := m0_; clear m0_; have B3 := Aside0.mk hbox; clear hbox hb hg; clear hz20 hz2f0; have hz20 : w2.cell? ⟨g2, 0, none⟩ = some (.slice A0 l0.length c0) := (blk_cell B2.out 0).trans rfl; have hz2f0 := blk_frozen B2.out 0; have hz30 : w2.cell? ⟨g3, 0, none⟩ = some (.int .i64 a1) := (blk_cell B3.out 0).trans rfl; have hz3f0 := blk_frozen B3.out 0) | ((with_reducible refine gate_dst (N := 4) rfl ?_); refine box_event ?hg (N := 4) ?hd (cs := #[.int .i64 0, .slice none 0 0]) (t := 27) ?hr ?_; (case hd => rfl); (case hg => rfl); (case hr => first | (go_simp; done) | (go_simp; rfl)); intro g4 hg w3 hbox hb; have n0_ := Aside0.mk (below_step (by repeat (first | (with_reducible first | exact HB.out | apply below_alloc | apply pw_below_drewN | apply below_drew1) | exact HB.out)) hb); have GW_g4 := Aside0.mk ((by rw [hg]; exact below_size (by repeat (first | (with_reducible first | exact HB.out | apply below_alloc | apply pw_below_drewN | apply below_drew1) | exact HB.out))) : w.heap.size ≤ g4); have m0_ := Aside0.mk (blk_below (g := g2) (o := .cells #[.slice A0 l0.length c0] 32 (0, 0)) (by (with_reducible repeat (first | refine blk_drewN ?_ _ | refine blk_drew ?_ | refine blk_alloc ?_ _)); exact B2.out) hb); have m1_ := Aside0.mk (blk_below (g := g3) (o := .cells #[.int .i64 a1] 2 (0, 0)) (by (with_reducible repeat (first | refine blk_drewN ?_ _ | refine blk_drew ?_ | refine blk_alloc ?_ _)); exact B3.out) hb); clear HB B2 B3; have HB := n0_; clear n0_; have B2 := m0_; clear m0_; have B3 := m1_; clear m1_; have B4 := Aside0.mk hbox; clear hbox hb hg; clear hz20 hz2f0 hz30 hz3f0; have hz20 : w3.cell? ⟨g2, 0, none⟩ = some (.slice A0 l0.length c0) := (blk_cell B2.out 0).trans rfl; have hz2f0 := blk_frozen B2.out 0; have hz30 : w3.cell? ⟨g3, 0, none⟩ = some (.int .i64 a1) := (blk_cell B3.out 0).trans rfl; have hz3f0 := blk_frozen B3.out 0; have hz40 : w3.cell? ⟨g4, 0, none⟩ = some (.int .i64 0) := (blk_cell B4.out 0).trans rfl; have hz4f0 := blk_frozen B4.out 0; have hz41 : w3.cell? ⟨g4, 1, none⟩ = some (.slice none 0 0) := (blk_cell B4.out 1).trans rfl; have hz4f1 := blk_frozen B4.out 1) | (go_at_call 37; (with_reducible refine (impl_within.calls (l0.length : Int) 1 7 true _ A3.out).mono ?_); rintro e_ w5 ⟨rfl, ⟨nd5, rfl⟩⟩) | (go_at_call 50; (with_reducible refine (hasI.calls k weiP 51 #[] eg A0 c0 l0 false _ ?sC ?sP A4.out).mono ?_); (case sC => exact Kd.C_below HR.out (by repeat (first | (with_reducible first | exact HB.out | apply below_alloc | apply pw_below_drewN | apply below_drew1) | exact HB.out))); (case sP => exact fun W x_ b_ hx_ hW_ => (weiP.calls x_ b_ W hx_).mono (fun e_ w_ h_ => ⟨h_.1, below_step hW_ h_.2⟩)); rintro e_ w7 ⟨rfl, hb⟩; have m2_ := Aside0.mk (blk_below (g := g2) (o := .cells #[.slice A0 l0.length c0] 32 (0, 0)) (by (with_reducible repeat (first | refine blk_drewN ?_ _ | refine blk_drew ?_ | refine blk_alloc ?_ _)); exact B2.out) hb); have m3_ := Aside0.mk (blk_below (g := g3) (o := .cells #[.int .i64 a1] 2 (0, 0)) (by (with_reducible repeat (first | refine blk_drewN ?_ _ | refine blk_drew ?_ | refine blk_alloc ?_ _)); exact B3.out) hb); have m4_ := Aside0.mk (blk_below (g := g4) (o := .cells #[.int .i64 0, .slice none 0 0] 27 (0, 0)) (by (with_reducible repeat (first | refine blk_drewN ?_ _ | refine blk_drew ?_ | refine blk_alloc ?_ _)); exact B4.out) hb); have n0_ := Aside0.mk (below_step (by repeat (first | (with_reducible first | exact HB.out | apply below_alloc | apply pw_below_drewN | apply below_drew1) | exact HB.out)) hb); clear hb B2 B3 B4 HB hz20 hz2f0 hz30 hz3f0 hz40 hz4f0 hz41 hz4f1; have HB := n0_; have B2 := m2_; have B3 := m3_; have B4 := m4_; clear n0_ m2_ m3_ m4_; have hz20 : w7.cell? ⟨g2, 0, none⟩ = some (.slice A0 l0.length c0) := (blk_cell B2.out 0).trans rfl; have hz2f0 := blk_frozen B2.out 0; have hz30 : w7.cell? ⟨g3, 0, none⟩ = some (.int .i64 a1) := (blk_cell B3.out 0).trans rfl; have hz3f0 := blk_frozen B3.out 0; have hz40 : w7.cell? ⟨g4, 0, none⟩ = some (.int .i64 0) := (blk_cell B4.out 0).trans rfl; have hz4f0 := blk_frozen B4.out 0; have hz41 : w7.cell? ⟨g4, 1, none⟩ = some (.slice none 0 0) := (blk_cell B4.out 1).trans rfl; have hz4f1 := blk_frozen B4.out 1) | (go_at_call 37; (with_reducible refine (impl_within.calls a1 0 7001 true _ A5.out).mono ?_); rintro e_ w6 ⟨rfl, ⟨nd6, rfl⟩⟩) | (go_at_call 52; (refine (famOf.calls (w0 := w7) (weiIs.hyp (Kd.C_below HR.out HB.out) B2.out B3.out) k (l0.length : Int) y _ ?sB A6.out).mono ?_); (case sB => exact (by repeat (first | (with_reducible first | exact (Below.refl w7.heap.size w7) | apply below_alloc | apply pw_below_drewN | apply below_drew1) | exact (Below.refl w7.heap.size w7)))); rintro e_ w9 ⟨v, rfl, hS, hb⟩; have HS := Aside0.mk (Kd.S_lower (base' := w.heap.size) (Kd.S_mono (Kd.S_bound hS) (ok' := fun k_ => k_ ≠ g4) (fun k_ hk_ => by have h1_ := hk_.2.1; have h2_ := blk_lt (o := .cells #[.int .i64 0, .slice none 0 0] 27 (0, 0)) B4.out; (try simp only [World.drewN, World.drew] at h1_); omega)) (below_size (by repeat (first | (with_reducible first | exact HB.out | apply below_alloc | apply pw_below_drewN | apply below_drew1) | exact HB.out)))); have m4_ := Aside0.mk (blk_below (g := g4) (o := .cells #[.int .i64 0, .slice none 0 0] 27 (0, 0)) (by (with_reducible repeat (first | refine blk_drewN ?_ _ | refine blk_drew ?_ | refine blk_alloc ?_ _)); exact B4.out) hb); have n0_ := Aside0.mk (below_step (by repeat (first | (with_reducible first | exact HB.out | apply below_alloc | apply pw_below_drewN | apply below_drew1) | exact HB.out)) hb); clear hS hb B2 B3 B4 HB hz20 hz2f0 hz30 hz3f0 hz40 hz4f0 hz41 hz4f1; have HB := n0_; have B4 := m4_; clear n0_ m4_; obtain ⟨Av, cv, ev⟩ := Kd.S_slice HS.out; subst ev; have hz40 : w9.cell? ⟨g4, 0, none⟩ = some (.int .i64 0) := (blk_cell B4.out 0).trans rfl; have hz4f0 := blk_frozen B4.out 0; have hz41 : w9.cell? ⟨g4, 1, none⟩ = some (.slice none 0 0) := (blk_cell B4.out 1).trans rfl; have hz4f1 := blk_frozen B4.out 1))
        refine bodyPost_ret (results_ct rfl _ _ g4 27 #[.int .i64 (l0.length : Int), .slice Av y.length cv] (0, 0) _ rfl (by (with_reducible repeat (first | refine blk_drewN ?_ _ | refine blk_drew ?_ | refine blk_alloc ?_ _)); refine blk_put (cs := #[.int .i64 (l0.length : Int), .slice none 0 0]) ?_ 1 _ rfl; (with_reducible repeat (first | refine blk_drewN ?_ _ | refine blk_drew ?_ | refine blk_alloc ?_ _)); refine blk_put (cs := #[.int .i64 0, .slice none 0 0]) ?_ 0 _ rfl; (with_reducible repeat (first | refine blk_drewN ?_ _ | refine blk_drew ?_ | refine blk_alloc ?_ _)); exact B4.out) Try.underlying27 rfl (by kernel_rfl)) rfl ?_
        exact ⟨_, rfl, Kd.S_mono (Kd.S_far (p := ⟨g4, 1, none⟩) (Kd.S_far (p := ⟨g4, 0, none⟩) HS.out (fun _ hk => hk) _) (fun _ hk => hk) _) (fun _ _ => trivial), (by repeat (first | (with_reducible first | exact HB.out | apply below_alloc | apply pw_below_drewN | apply below_drew1 | refine below_set ?_ GW_g4.out) | exact HB.out))⟩
      · replace c6 := Bool.eq_false_iff.mpr c6
        subst c6
        rw [if_neg (show ¬ (false = true) by decide)] at H
        simp only [Option.some.injEq, Prod.mk.injEq] at H
        obtain ⟨rfl, rfl, rfl⟩ := H
        go_enter Try.func26, Try.ntmps26
        go_wp2_with (first | ((with_reducible refine gate_dst (N := 2) rfl ?_); refine box_event ?hg (N := 2) ?hd (cs := #[.slice A0 l0.length c0]) (t := 32) ?hr ?_; (case hd => rfl); (case hg => rfl); (case hr => first | (go_simp; done) | (go_simp; rfl)); intro g2 hg w1 hbox hb; have n0_ := Aside0.mk (below_step (by repeat (first | (with_reducible first | exact HB.out | apply below_alloc | apply pw_below_drewN | apply below_drew1) | exact HB.out)) hb); have GW_g2 := Aside0.mk ((by rw [hg]; exact below_size (by repeat (first | (with_reducible first | exact HB.out | apply below_alloc | apply pw_below_drewN | apply below_drew1) | exact HB.out))) : w.heap.size ≤ g2); clear HB ; have HB := n0_; clear n0_; have B2 := Aside0.mk hbox; clear hbox hb hg; have hz20 : w1.cell? ⟨g2, 0, none⟩ = some (.slice A0 l0.length c0) := (blk_cell B2.out 0).trans rfl; have hz2f0 := blk_frozen B2.out 0) | ((with_reducible refine gate_dst (N := 3) rfl ?_); refine box_event ?hg (N := 3) ?hd (cs := #[.int .i64 a1]) (t := 2) ?hr ?_; (case hd => rfl); (case hg => rfl); (case hr => first | (go_simp; done) | (go_simp; rfl)); intro g3 hg w2 hbox hb; have n0_ := Aside0.mk (below_step (by repeat (first | (with_reducible first | exact HB.out | apply below_alloc | apply pw_below_drewN | apply below_drew1) | exact HB.out)) hb); have GW_g3 := Aside0.mk ((by rw [hg]; exact below_size (by repeat (first | (with_reducible first | exact HB.out | apply below_alloc | apply pw_below_drewN | apply below_drew1) | exact HB.out))) : w.heap.size ≤ g3); have m0_ := Aside0.mk (blk_below (g := g2) (o := .cells #[.slice A0 l0.length c0] 32 (0, 0)) (by (with_reducible repeat (first | refine blk_drewN ?_ _ | refine blk_drew ?_ | refine blk_alloc ?_ _)); exact B2.out) hb); clear HB B2; have HB := n0_; clear n0_; have B2 := m0_; clear m0_; have B3 := Aside0.mk hbox; clear hbox hb hg; clear hz20 hz2f0; have hz20 : w2.cell? ⟨g2, 0, none⟩ = some (.slice A0 l0.length c0) := (blk_cell B2.out 0).trans rfl; have hz2f0 := blk_frozen B2.out 0; have hz30 : w2.cell? ⟨g3, 0, none⟩ = some (.int .i64 a1) := (blk_cell B3.out 0).trans rfl; have hz3f0 := blk_frozen B3.out 0) | ((with_reducible refine gate_dst (N := 4) rfl ?_); refine box_event ?hg (N := 4) ?hd (cs := #[.int .i64 0, .slice none 0 0]) (t := 27) ?hr ?_; (case hd => rfl); (case hg => rfl); (case hr => first | (go_simp; done) | (go_simp; rfl)); intro g4 hg w3 hbox hb; have n0_ := Aside0.mk (below_step (by repeat (first | (with_reducible first | exact HB.out | apply below_alloc | apply pw_below_drewN | apply below_drew1) | exact HB.out)) hb); have GW_g4 := Aside0.mk ((by rw [hg]; exact below_size (by repeat (first | (with_reducible first | exact HB.out | apply below_alloc | apply pw_below_drewN | apply below_drew1) | exact HB.out))) : w.heap.size ≤ g4); have m0_ := Aside0.mk (blk_below (g := g2) (o := .cells #[.slice A0 l0.length c0] 32 (0, 0)) (by (with_reducible repeat (first | refine blk_drewN ?_ _ | refine blk_drew ?_ | refine blk_alloc ?_ _)); exact B2.out) hb); have m1_ := Aside0.mk (blk_below (g := g3) (o := .cells #[.int .i64 a1] 2 (0, 0)) (by (with_reducible repeat (first | refine blk_drewN ?_ _ | refine blk_drew ?_ | refine blk_alloc ?_ _)); exact B3.out) hb); clear HB B2 B3; have HB := n0_; clear n0_; have B2 := m0_; clear m0_; have B3 := m1_; clear m1_; have B4 := Aside0.mk hbox; clear hbox hb hg; clear hz20 hz2f0 hz30 hz3f0; have hz20 : w3.cell? ⟨g2, 0, none⟩ = some (.slice A0 l0.length c0) := (blk_cell B2.out 0).trans rfl; have hz2f0 := blk_frozen B2.out 0; have hz30 : w3.cell? ⟨g3, 0, none⟩ = some (.int .i64 a1) := (blk_cell B3.out 0).trans rfl; have hz3f0 := blk_frozen B3.out 0; have hz40 : w3.cell? ⟨g4, 0, none⟩ = some (.int .i64 0) := (blk_cell B4.out 0).trans rfl; have hz4f0 := blk_frozen B4.out 0; have hz41 : w3.cell? ⟨g4, 1, none⟩ = some (.slice none 0 0) := (blk_cell B4.out 1).trans rfl; have hz4f1 := blk_frozen B4.out 1) | (go_at_call 37; (with_reducible refine (impl_within.calls (l0.length : Int) 1 7 true _ A3.out).mono ?_); rintro e_ w5 ⟨rfl, ⟨nd5, rfl⟩⟩) | (go_at_call 50; (with_reducible refine (hasI.calls k weiP 51 #[] eg A0 c0 l0 false _ ?sC ?sP A4.out).mono ?_); (case sC => exact Kd.C_below HR.out (by repeat (first | (with_reducible first | exact HB.out | apply below_alloc | apply pw_below_drewN | apply below_drew1) | exact HB.out))); (case sP => exact fun W x_ b_ hx_ hW_ => (weiP.calls x_ b_ W hx_).mono (fun e_ w_ h_ => ⟨h_.1, below_step hW_ h_.2⟩)); rintro e_ w7 ⟨rfl, hb⟩; have m2_ := Aside0.mk (blk_below (g := g2) (o := .cells #[.slice A0 l0.length c0] 32 (0, 0)) (by (with_reducible repeat (first | refine blk_drewN ?_ _ | refine blk_drew ?_ | refine blk_alloc ?_ _)); exact B2.out) hb); have m3_ := Aside0.mk (blk_below (g := g3) (o := .cells #[.int .i64 a1] 2 (0, 0)) (by (with_reducible repeat (first | refine blk_drewN ?_ _ | refine blk_drew ?_ | refine blk_alloc ?_ _)); exact B3.out) hb); have m4_ := Aside0.mk (blk_below (g := g4) (o := .cells #[.int .i64 0, .slice none 0 0] 27 (0, 0)) (by (with_reducible repeat (first | refine blk_drewN ?_ _ | refine blk_drew ?_ | refine blk_alloc ?_ _)); exact B4.out) hb); have n0_ := Aside0.mk (below_step (by repeat (first | (with_reducible first | exact HB.out | apply below_alloc | apply pw_below_drewN | apply below_drew1) | exact HB.out)) hb); clear hb B2 B3 B4 HB hz20 hz2f0 hz30 hz3f0 hz40 hz4f0 hz41 hz4f1; have HB := n0_; have B2 := m2_; have B3 := m3_; have B4 := m4_; clear n0_ m2_ m3_ m4_; have hz20 : w7.cell? ⟨g2, 0, none⟩ = some (.slice A0 l0.length c0) := (blk_cell B2.out 0).trans rfl; have hz2f0 := blk_frozen B2.out 0; have hz30 : w7.cell? ⟨g3, 0, none⟩ = some (.int .i64 a1) := (blk_cell B3.out 0).trans rfl; have hz3f0 := blk_frozen B3.out 0; have hz40 : w7.cell? ⟨g4, 0, none⟩ = some (.int .i64 0) := (blk_cell B4.out 0).trans rfl; have hz4f0 := blk_frozen B4.out 0; have hz41 : w7.cell? ⟨g4, 1, none⟩ = some (.slice none 0 0) := (blk_cell B4.out 1).trans rfl; have hz4f1 := blk_frozen B4.out 1) | (go_at_call 37; (with_reducible refine (impl_within.calls a1 0 7001 false _ A5.out).mono ?_); rintro e_ w6 ⟨rfl, ⟨nd6, rfl⟩⟩))
        refine bodyPost_ret (results_ct rfl _ _ g4 27 #[.int .i64 0, .slice none 0 0] (0, 0) _ rfl (by (with_reducible repeat (first | refine blk_drewN ?_ _ | refine blk_drew ?_ | refine blk_alloc ?_ _)); refine blk_put (cs := #[.int .i64 0, .slice none 0 0]) ?_ 1 _ rfl; (with_reducible repeat (first | refine blk_drewN ?_ _ | refine blk_drew ?_ | refine blk_alloc ?_ _)); refine blk_put (cs := #[.int .i64 0, .slice none 0 0]) ?_ 0 _ rfl; (with_reducible repeat (first | refine blk_drewN ?_ _ | refine blk_drew ?_ | refine blk_alloc ?_ _)); exact B4.out) Try.underlying27 rfl (by kernel_rfl)) rfl ?_
        exact ⟨_, rfl, Kd.S_nil _ _ _ _ _, (by repeat (first | (with_reducible first | exact HB.out | apply below_alloc | apply pw_below_drewN | apply below_drew1 | refine below_set ?_ GW_g4.out) | exact HB.out))⟩
  · replace c4 := Bool.eq_false_iff.mpr c4
    subst c4
    rw [if_neg (show ¬ (false = true) by decide)] at H
    simp only [Option.some.injEq, Prod.mk.injEq] at H
    obtain ⟨rfl, rfl, rfl⟩ := H
    go_enter Try.func26, Try.ntmps26
    go_wp2_with (first | ((with_reducible refine gate_dst (N := 2) rfl ?_); refine box_event ?hg (N := 2) ?hd (cs := #[.slice A0 l0.length c0]) (t := 32) ?hr ?_; (case hd => rfl); (case hg => rfl); (case hr => first | (go_simp; done) | (go_simp; rfl)); intro g2 hg w1 hbox hb; have n0_ := Aside0.mk (below_step (by repeat (first | (with_reducible first | exact HB.out | apply below_alloc | apply pw_below_drewN | apply below_drew1) | exact HB.out)) hb); have GW_g2 := Aside0.mk ((by rw [hg]; exact below_size (by repeat (first | (with_reducible first | exact HB.out | apply below_alloc | apply pw_below_drewN | apply below_drew1) | exact HB.out))) : w.heap.size ≤ g2); clear HB ; have HB := n0_; clear n0_; have B2 := Aside0.mk hbox; clear hbox hb hg; have hz20 : w1.cell? ⟨g2, 0, none⟩ = some (.slice A0 l0.length c0) := (blk_cell B2.out 0).trans rfl; have hz2f0 := blk_frozen B2.out 0) | ((with_reducible refine gate_dst (N := 3) rfl ?_); refine box_event ?hg (N := 3) ?hd (cs := #[.int .i64 a1]) (t := 2) ?hr ?_; (case hd => rfl); (case hg => rfl); (case hr => first | (go_simp; done) | (go_simp; rfl)); intro g3 hg w2 hbox hb; have n0_ := Aside0.mk (below_step (by repeat (first | (with_reducible first | exact HB.out | apply below_alloc | apply pw_below_drewN | apply below_drew1) | exact HB.out)) hb); have GW_g3 := Aside0.mk ((by rw [hg]; exact below_size (by repeat (first | (with_reducible first | exact HB.out | apply below_alloc | apply pw_below_drewN | apply below_drew1) | exact HB.out))) : w.heap.size ≤ g3); have m0_ := Aside0.mk (blk_below (g := g2) (o := .cells #[.slice A0 l0.length c0] 32 (0, 0)) (by (with_reducible repeat (first | refine blk_drewN ?_ _ | refine blk_drew ?_ | refine blk_alloc ?_ _)); exact B2.out) hb); clear HB B2; have HB := n0_; clear n0_; have B2 := m0_; clear m0_; have B3 := Aside0.mk hbox; clear hbox hb hg; clear hz20 hz2f0; have hz20 : w2.cell? ⟨g2, 0, none⟩ = some (.slice A0 l0.length c0) := (blk_cell B2.out 0).trans rfl; have hz2f0 := blk_frozen B2.out 0; have hz30 : w2.cell? ⟨g3, 0, none⟩ = some (.int .i64 a1) := (blk_cell B3.out 0).trans rfl; have hz3f0 := blk_frozen B3.out 0) | ((with_reducible refine gate_dst (N := 4) rfl ?_); refine box_event ?hg (N := 4) ?hd (cs := #[.int .i64 0, .slice none 0 0]) (t := 27) ?hr ?_; (case hd => rfl); (case hg => rfl); (case hr => first | (go_simp; done) | (go_simp; rfl)); intro g4 hg w3 hbox hb; have n0_ := Aside0.mk (below_step (by repeat (first | (with_reducible first | exact HB.out | apply below_alloc | apply pw_below_drewN | apply below_drew1) | exact HB.out)) hb); have GW_g4 := Aside0.mk ((by rw [hg]; exact below_size (by repeat (first | (with_reducible first | exact HB.out | apply below_alloc | apply pw_below_drewN | apply below_drew1) | exact HB.out))) : w.heap.size ≤ g4); have m0_ := Aside0.mk (blk_below (g := g2) (o := .cells #[.slice A0 l0.length c0] 32 (0, 0)) (by (with_reducible repeat (first | refine blk_drewN ?_ _ | refine blk_drew ?_ | refine blk_alloc ?_ _)); exact B2.out) hb); have m1_ := Aside0.mk (blk_below (g := g3) (o := .cells #[.int .i64 a1] 2 (0, 0)) (by (with_reducible repeat (first | refine blk_drewN ?_ _ | refine blk_drew ?_ | refine blk_alloc ?_ _)); exact B3.out) hb); clear HB B2 B3; have HB := n0_; clear n0_; have B2 := m0_; clear m0_; have B3 := m1_; clear m1_; have B4 := Aside0.mk hbox; clear hbox hb hg; clear hz20 hz2f0 hz30 hz3f0; have hz20 : w3.cell? ⟨g2, 0, none⟩ = some (.slice A0 l0.length c0) := (blk_cell B2.out 0).trans rfl; have hz2f0 := blk_frozen B2.out 0; have hz30 : w3.cell? ⟨g3, 0, none⟩ = some (.int .i64 a1) := (blk_cell B3.out 0).trans rfl; have hz3f0 := blk_frozen B3.out 0; have hz40 : w3.cell? ⟨g4, 0, none⟩ = some (.int .i64 0) := (blk_cell B4.out 0).trans rfl; have hz4f0 := blk_frozen B4.out 0; have hz41 : w3.cell? ⟨g4, 1, none⟩ = some (.slice none 0 0) := (blk_cell B4.out 1).trans rfl; have hz4f1 := blk_frozen B4.out 1) | (go_at_call 37; (with_reducible refine (impl_within.calls (l0.length : Int) 1 7 false _ A3.out).mono ?_); rintro e_ w5 ⟨rfl, ⟨nd5, rfl⟩⟩))
    refine bodyPost_ret (results_ct rfl _ _ g4 27 #[.int .i64 0, .slice none 0 0] (0, 0) _ rfl (by (with_reducible repeat (first | refine blk_drewN ?_ _ | refine blk_drew ?_ | refine blk_alloc ?_ _)); refine blk_put (cs := #[.int .i64 0, .slice none 0 0]) ?_ 1 _ rfl; (with_reducible repeat (first | refine blk_drewN ?_ _ | refine blk_drew ?_ | refine blk_alloc ?_ _)); refine blk_put (cs := #[.int .i64 0, .slice none 0 0]) ?_ 0 _ rfl; (with_reducible repeat (first | refine blk_drewN ?_ _ | refine blk_drew ?_ | refine blk_alloc ?_ _)); exact B4.out) Try.underlying27 rfl (by kernel_rfl)) rfl ?_
    exact ⟨_, rfl, Kd.S_nil _ _ _ _ _, (by repeat (first | (with_reducible first | exact HB.out | apply below_alloc | apply pw_below_drewN | apply below_drew1 | refine below_set ?_ GW_g4.out) | exact HB.out))⟩

end Go.Proofs.Ytenmlpngnpjpjaa.P

namespace Go.Proofs.Ytenmlpngnpjpjaa.P
open Go.RowKit Go.Proofs.YtenmlpngnpjpjaaW.PrintWords Go.Proofs.YtenmlpngnpjpjaaW.PrintLast Go.Proofs.YtenmlpngnpjpjaaW.PrintMore
attribute [local go_sem] max2_int min2_int max_two min_two max_three min_three max_four min_four
set_option linter.unusedVariables false
set_option linter.unusedSimpArgs false

/-! ### laws_heldInt64S: function 21 -/
def laws_heldInt64S.l0 : Nat → List Int → Int → Int → Option (Int)
  | 0, _, _, _ => none
  | k + 1, x0, x1, x5 => if x5 < (x0.length : Int) then (if 0 ≤ x5 then (if (rd x0 x5) = x1 then (laws_heldInt64S.l0 k x0 (wrap64 (x1 + 1)) (wrap64 (x5 + 1))) else (some (-1))) else (none)) else (some x1)
def laws_heldInt64S.f (k : Nat) (l0 : List Int) (a1 : Int) : Option (Int) := laws_heldInt64S.l0 k l0 a1 0
set_option maxHeartbeats 8000000 in
set_option maxRecDepth 100000 in
theorem laws_heldInt64S.calls (k : Nat) (A0 : Option Addr) (c0 : Nat) (l0 : List Int) (a1 : Int) (r : Int) (w : World) (hr0 : Kd.C (Kd.int .i64) w A0 l0.length l0) (hc0 : l0.length ≤ c0) (h : laws_heldInt64S.f k l0 a1 = some r) :
    Calls Try.prog 21 #[.slice A0 l0.length c0, .int .i64 a1] w fun e w' => e = .returned (.int .i64 r) ∧ Drawn0 w w' := by
  have HR0 := Aside0.mk hr0
  have HC0 := Aside0.mk hc0
  clear hr0 hc0
  have H : (laws_heldInt64S.l0 k l0 a1 0) = some r := h
  clear h
  have H' := Aside0.mk H
  clear H
  go_enter Try.func21, Try.ntmps21
  go_wp2
  go_loopg [1, 5] k (fun kq v1 v5 w' => ∃ (x1_1 : Int) (x5_1 : Int), v1 = .int .i64 x1_1 ∧ v5 = .int .i64 x5_1 ∧ Aside0 (laws_heldInt64S.l0 kq l0 x1_1 x5_1 = some r) ∧ Aside0 (kq ≤ k) ∧ Drawn0 w w')
  case atStart => exact ⟨(a1), (0), (by first | rfl | (simp; done) | (simp [*]; done)), (by first | rfl | (simp; done) | (simp [*]; done)), H', ⟨Nat.le_refl _⟩, by repeat (first | exact Drawn0.refl _ | apply Drawn0.step)⟩
  case round =>
    clear H'
    try clear c2
    try clear p2
    obtain ⟨x1_1, x5_1, rfl, rfl, HA, HK1, ⟨m1, rfl⟩⟩ := hrel
    cases gk with
    | zero => exact absurd HA.out (by simp [laws_heldInt64S.l0])
    | succ k1 =>
      have H := HA.out
      clear HA
      simp only [laws_heldInt64S.l0] at H
      by_cases c3 : x5_1 < (l0.length : Int)
      · rw [if_pos c3] at H
        have c3b0 : decide (x5_1 < (l0.length : Int)) = true := decide_eq_true c3
        clear c3
        by_cases c4 : 0 ≤ x5_1
        · rw [if_pos c4] at H
          have c4b0 : decide (0 ≤ x5_1) = true := decide_eq_true c4
          clear c4
          by_cases c5 : (rd l0 x5_1) = x1_1
          · rw [if_pos c5] at H
            have c5b0 : ((rd l0 x5_1) == x1_1) = true := beq_iff_eq.mpr c5
            have c5b1 : ((rd l0 x5_1) != x1_1) = false := bne_eq_false_iff_eq.mpr c5
            clear c5
            have H' := Aside0.mk H
            clear H
            have p222 : 0 ≤ (x5_1 : Int) := of_decide_eq_true (by first | (with_reducible assumption) | assumption)
            have q222 : x5_1 < (l0.length : Int) := of_decide_eq_true (by first | (with_reducible assumption) | assumption)
            obtain ⟨ad222, e222, hx222_0⟩ := Kd.at_int HR0.out x5_1 p222 q222
            cases e222
            replace p222 := eq_true p222
            replace q222 := eq_true q222
            go_wp2
            go_roundg k1
            case measure => have := HK1.out; omega
            case rel => exact ⟨(wrap64 (x1_1 + 1)), (wrap64 (x5_1 + 1)), (by first | rfl | (simp; done) | (simp [*]; done)), (by first | rfl | (simp; done) | (simp [*]; done)), H', ⟨by have := HK1.out; omega⟩, by repeat (first | exact Drawn0.refl _ | apply Drawn0.step)⟩
          · rw [if_neg c5] at H
            have c5b0 : ((rd l0 x5_1) == x1_1) = false := beq_eq_false_iff_ne.mpr c5
            have c5b1 : ((rd l0 x5_1) != x1_1) = true := bne_iff_ne.mpr c5
            obtain rfl := Option.some.inj H
            have p222 : 0 ≤ (x5_1 : Int) := of_decide_eq_true (by first | (with_reducible assumption) | assumption)
            have q222 : x5_1 < (l0.length : Int) := of_decide_eq_true (by first | (with_reducible assumption) | assumption)
            obtain ⟨ad222, e222, hx222_0⟩ := Kd.at_int HR0.out x5_1 p222 q222
            cases e222
            replace p222 := eq_true p222
            replace q222 := eq_true q222
            go_wp2
            go_ret
            exact ⟨by first | rfl | (simp; done) | (simp [*]; done), by repeat (first | exact Drawn0.refl _ | apply Drawn0.step)⟩
        · rw [if_neg c4] at H
          exact absurd H (by simp)
      · rw [if_neg c3] at H
        have c3b0 : decide (x5_1 < (l0.length : Int)) = false := decide_eq_false c3
        clear c3
        obtain rfl := Option.some.inj H
        go_wp2
        go_ret
        exact ⟨by first | rfl | (simp; done) | (simp [*]; done), by repeat (first | exact Drawn0.refl _ | apply Drawn0.step)⟩

end Go.Proofs.Ytenmlpngnpjpjaa.P

namespace Go.Proofs.Ytenmlpngnpjpjaa.P
open Go.RowKit Go.Proofs.YtenmlpngnpjpjaaW.PrintWords Go.Proofs.YtenmlpngnpjpjaaW.PrintLast Go.Proofs.YtenmlpngnpjpjaaW.PrintMore
attribute [local go_sem] max2_int min2_int max_two min_two max_three min_three max_four min_four
set_option linter.unusedVariables false
set_option linter.unusedSimpArgs false

/-! ### laws_heldInt64SS: function 54 -/
def laws_heldInt64SS.l0 : Nat → List (List Int) → Int → Int → Option (Int)
  | 0, _, _, _ => none
  | k + 1, x0, x1, x5 => if x5 < (x0.length : Int) then (if 0 ≤ x5 then ((laws_heldInt64S.f k (rd_L1 x0 x5) x1).bind fun t270 => (if t270 < 0 then (some (-1)) else (laws_heldInt64SS.l0 k x0 t270 (wrap64 (x5 + 1))))) else (none)) else (some x1)
def laws_heldInt64SS.f (k : Nat) (l0 : List (List Int)) (a1 : Int) : Option (Int) := laws_heldInt64SS.l0 k l0 a1 0
set_option maxHeartbeats 8000000 in
set_option maxRecDepth 100000 in
theorem laws_heldInt64SS.calls (k : Nat) (A0 : Option Addr) (c0 : Nat) (l0 : List (List Int)) (a1 : Int) (r : Int) (w : World) (hr0 : Kd.C (Kd.slice 2 (Kd.int .i64)) w A0 l0.length l0) (hc0 : l0.length ≤ c0) (h : laws_heldInt64SS.f k l0 a1 = some r) :
    Calls Try.prog 54 #[.slice A0 l0.length c0, .int .i64 a1] w fun e w' => e = .returned (.int .i64 r) ∧ Drawn0 w w' := by
  have HR0 := Aside0.mk hr0
  have HC0 := Aside0.mk hc0
  clear hr0 hc0
  have H : (laws_heldInt64SS.l0 k l0 a1 0) = some r := h
  clear h
  have H' := Aside0.mk H
  clear H
  go_enter Try.func54, Try.ntmps54
  go_wp2
  go_loopg [1, 5] k (fun kq v1 v5 w' => ∃ (x1_1 : Int) (x5_1 : Int), v1 = .int .i64 x1_1 ∧ v5 = .int .i64 x5_1 ∧ Aside0 (laws_heldInt64SS.l0 kq l0 x1_1 x5_1 = some r) ∧ Aside0 (kq ≤ k) ∧ Drawn0 w w')
  case atStart => exact ⟨(a1), (0), (by first | rfl | (simp; done) | (simp [*]; done)), (by first | rfl | (simp; done) | (simp [*]; done)), H', ⟨Nat.le_refl _⟩, by repeat (first | exact Drawn0.refl _ | apply Drawn0.step)⟩
  case round =>
    clear H'
    try clear p2
    obtain ⟨x1_1, x5_1, rfl, rfl, HA, HK1, ⟨m1, rfl⟩⟩ := hrel
    cases gk with
    | zero => exact absurd HA.out (by simp [laws_heldInt64SS.l0])
    | succ k1 =>
      have H := HA.out
      clear HA
      simp only [laws_heldInt64SS.l0] at H
      by_cases c3 : x5_1 < (l0.length : Int)
      · rw [if_pos c3] at H
        have c3b0 : decide (x5_1 < (l0.length : Int)) = true := decide_eq_true c3
        clear c3
        by_cases c4 : 0 ≤ x5_1
        · rw [if_pos c4] at H
          have c4b0 : decide (0 ≤ x5_1) = true := decide_eq_true c4
          clear c4
          replace H := Option.bind_eq_some_iff.mp H
          obtain ⟨t270, A50, H⟩ := H
          replace H : (if t270 < 0 then (some (-1)) else (laws_heldInt64SS.l0 k1 l0 t270 (wrap64 (x5_1 + 1)))) = some r := H
          have A5 := Aside0.mk A50
          clear A50
          by_cases c6 : t270 < 0
          · rw [if_pos c6] at H
            have c6b0 : decide (t270 < 0) = true := decide_eq_true c6
            clear c6
            obtain rfl := Option.some.inj H
            have p269 : 0 ≤ (x5_1 : Int) := of_decide_eq_true (by first | (with_reducible assumption) | assumption)
            have q269 : x5_1 < (l0.length : Int) := of_decide_eq_true (by first | (with_reducible assumption) | assumption)
            obtain ⟨ad269, A269_0, c269_0, e269, hx269_0, hl269_0, hi269_0⟩ := at_L1 HR0.out x5_1 p269 q269
            cases e269
            have HR269_0 := Aside0.mk hi269_0
            have HC269_0 := Aside0.mk hl269_0
            clear hi269_0 hl269_0
            replace p269 := eq_true p269
            replace q269 := eq_true q269
            go_wp2_with (first | ((with_reducible refine gate_callee (f := 21) rfl ?_); refine goesL_ (some 17) rfl rfl Try.func21 (by kernel_rfl) rfl #[.slice A269_0 (rd_L1 l0 x5_1).length c269_0, .int .i64 x1_1] rfl (by (try simp only [List.map_toArray, List.map_cons, List.map_nil]); first | done | rfl | (simp only [List.length_drop, List.length_take]; rfl)) ?_; (with_reducible refine (laws_heldInt64S.calls k1 _ _ (rd_L1 l0 x5_1) x1_1 t270 _ ?side1 ?side2 A5.out).mono ?_); (case side1 => repeat (first | exact HR269_0.out | (with_reducible refine Kd.C_alloc ?_ _) | (with_reducible refine Kd.C_drewN ?_ _) | (with_reducible refine Kd.C_drew ?_))); (case side2 => exact HC269_0.out); rintro e w' ⟨rfl, ⟨nd, rfl⟩⟩; refine ⟨_, rfl, ?_⟩))
            go_ret
            exact ⟨by first | rfl | (simp; done) | (simp [*]; done), by repeat (first | exact Drawn0.refl _ | apply Drawn0.step)⟩
          · rw [if_neg c6] at H
            have c6b0 : decide (t270 < 0) = false := decide_eq_false c6
            clear c6
            have H' := Aside0.mk H
            clear H
            have p269 : 0 ≤ (x5_1 : Int) := of_decide_eq_true (by first | (with_reducible assumption) | assumption)
            have q269 : x5_1 < (l0.length : Int) := of_decide_eq_true (by first | (with_reducible assumption) | assumption)
            obtain ⟨ad269, A269_0, c269_0, e269, hx269_0, hl269_0, hi269_0⟩ := at_L1 HR0.out x5_1 p269 q269
            cases e269
            have HR269_0 := Aside0.mk hi269_0
            have HC269_0 := Aside0.mk hl269_0
            clear hi269_0 hl269_0
            replace p269 := eq_true p269
            replace q269 := eq_true q269
            go_wp2_with (first | ((with_reducible refine gate_callee (f := 21) rfl ?_); refine goesL_ (some 17) rfl rfl Try.func21 (by kernel_rfl) rfl #[.slice A269_0 (rd_L1 l0 x5_1).length c269_0, .int .i64 x1_1] rfl (by (try simp only [List.map_toArray, List.map_cons, List.map_nil]); first | done | rfl | (simp only [List.length_drop, List.length_take]; rfl)) ?_; (with_reducible refine (laws_heldInt64S.calls k1 _ _ (rd_L1 l0 x5_1) x1_1 t270 _ ?side1 ?side2 A5.out).mono ?_); (case side1 => repeat (first | exact HR269_0.out | (with_reducible refine Kd.C_alloc ?_ _) | (with_reducible refine Kd.C_drewN ?_ _) | (with_reducible refine Kd.C_drew ?_))); (case side2 => exact HC269_0.out); rintro e w' ⟨rfl, ⟨nd, rfl⟩⟩; refine ⟨_, rfl, ?_⟩))
            go_roundg k1
            case measure => have := HK1.out; omega
            case rel => exact ⟨(t270), (wrap64 (x5_1 + 1)), (by first | rfl | (simp; done) | (simp [*]; done)), (by first | rfl | (simp; done) | (simp [*]; done)), H', ⟨by have := HK1.out; omega⟩, by repeat (first | exact Drawn0.refl _ | apply Drawn0.step)⟩
        · rw [if_neg c4] at H
          exact absurd H (by simp)
      · rw [if_neg c3] at H
        have c3b0 : decide (x5_1 < (l0.length : Int)) = false := decide_eq_false c3
        clear c3
        obtain rfl := Option.some.inj H
        go_wp2
        go_ret
        exact ⟨by first | rfl | (simp; done) | (simp [*]; done), by repeat (first | exact Drawn0.refl _ | apply Drawn0.step)⟩

end Go.Proofs.Ytenmlpngnpjpjaa.P

namespace Go.Proofs.Ytenmlpngnpjpjaa.P
open Go.RowKit Go.Proofs.YtenmlpngnpjpjaaW.PrintWords Go.Proofs.YtenmlpngnpjpjaaW.PrintLast Go.Proofs.YtenmlpngnpjpjaaW.PrintMore
attribute [local go_sem] max2_int min2_int max_two min_two max_three min_three max_four min_four
set_option linter.unusedVariables false
set_option linter.unusedSimpArgs false

/-! ### laws_heldFamily: function 27 -/
def laws_heldFamily.f (k : Nat) (a0_0 : Int) (l0_1 : List (List Int)) (a1 : Int) : Option (Int) := (laws_heldInt64SS.f k l0_1 a1).bind fun t272 => (if t272 < 0 then (some (-1)) else (some t272))
set_option maxHeartbeats 8000000 in
set_option maxRecDepth 100000 in
theorem laws_heldFamily.calls (k : Nat) (a0_0 : Int) (A0_1 : Option Addr) (c0_1 : Nat) (l0_1 : List (List Int)) (a1 : Int) (r : Int) (w : World) (hr0_1 : Kd.C (Kd.slice 2 (Kd.int .i64)) w A0_1 l0_1.length l0_1) (hc0_1 : l0_1.length ≤ c0_1) (h : laws_heldFamily.f k a0_0 l0_1 a1 = some r) :
    Calls Try.prog 27 #[.agg #[.int .i64 a0_0, .slice A0_1 l0_1.length c0_1], .int .i64 a1] w fun e w' => e = .returned (.int .i64 r) ∧ Below w.heap.size w w' := by
  have hu27 := Try.underlying27
  have HR0_1 := Aside0.mk hr0_1
  have HC0_1 := Aside0.mk hc0_1
  clear hr0_1 hc0_1
  have HB := Aside0.mk (Below.refl w.heap.size w)
  have H : ((laws_heldInt64SS.f k l0_1 a1).bind fun t272 => (if t272 < 0 then (some (-1)) else (some t272))) = some r := h
  clear h
  replace H := Option.bind_eq_some_iff.mp H
  obtain ⟨t272, A30, H⟩ := H
  replace H : (if t272 < 0 then (some (-1)) else (some t272)) = some r := H
  have A3 := Aside0.mk A30
  clear A30
  by_cases c4 : t272 < 0
  · rw [if_pos c4] at H
    have c4b0 : decide (t272 < 0) = true := decide_eq_true c4
    clear c4
    obtain rfl := Option.some.inj H
    go_enter Try.func27, Try.ntmps27
    go_wp2_with (first | ((with_reducible refine gate_dst (N := 2) rfl ?_); refine box_event ?hg (N := 2) ?hd (cs := #[.int .i64 a0_0, .slice A0_1 l0_1.length c0_1]) (t := 27) ?hr ?_; (case hd => rfl); (case hg => rfl); (case hr => first | (go_simp; done) | (go_simp; rfl)); intro gb271 hg w5 hbox hb; have n0_ := Aside0.mk (below_step (by repeat (first | (with_reducible first | exact HB.out | apply below_alloc | apply pw_below_drewN | apply below_drew1) | exact HB.out)) hb); have n1_ := Aside0.mk (hbox); have n2_ := Aside0.mk ((by rw [hg]; exact (below_size (by repeat (first | (with_reducible first | exact HB.out | apply below_alloc | apply pw_below_drewN | apply below_drew1) | exact HB.out))) : w.heap.size ≤ gb271)); have n3_ := Aside0.mk ((by rw [hg]; exact (below_size (by repeat (first | (with_reducible first | exact HB.out | apply below_alloc | apply pw_below_drewN | apply below_drew1) | exact HB.out))) : w.heap.size ≤ gb271)); clear HB; have HB := n0_; have BK271 := n1_; have GW271 := n2_; have GE271 := n3_; clear n0_ n1_ n2_ n3_; clear hb hbox hg; have hcz6_0 : w5.cell? ⟨gb271, 0, none⟩ = some (.int .i64 a0_0) := (blk_cell BK271.out 0).trans rfl; have hcz6_1 : w5.cell? ⟨gb271, 1, none⟩ = some (.slice A0_1 l0_1.length c0_1) := (blk_cell BK271.out 1).trans rfl; have hfz6_0 := blk_frozen BK271.out 0; have hfz6_1 := blk_frozen BK271.out 1) | ((with_reducible refine gate_callee (f := 54) rfl ?_); refine goesL_ (some 8) rfl rfl Try.func54 (by kernel_rfl) rfl #[.slice A0_1 l0_1.length c0_1, .int .i64 a1] rfl (by (try simp only [List.map_toArray, List.map_cons, List.map_nil]); first | done | rfl | (simp only [List.length_drop, List.length_take]; rfl)) ?_; (with_reducible refine (laws_heldInt64SS.calls k _ _ l0_1 a1 t272 _ ?side1 ?side2 A3.out).mono ?_); (case side1 => repeat (first | exact (Kd.C_below HR0_1.out HB.out) | (with_reducible refine Kd.C_alloc ?_ _) | (with_reducible refine Kd.C_drewN ?_ _) | (with_reducible refine Kd.C_drew ?_))); (case side2 => exact HC0_1.out); rintro e w' ⟨rfl, ⟨nd, rfl⟩⟩; refine ⟨_, rfl, ?_⟩))
    go_ret
    exact ⟨by first | rfl | (simp [errW_none, errW_some] <;> rfl) | (simp [*, errW_none, errW_some] <;> rfl), by repeat (first | (with_reducible first | exact HB.out | apply below_alloc | apply pw_below_drewN | apply below_drew1 | refine below_set ?_ GE271.out) | exact HB.out)⟩
  · rw [if_neg c4] at H
    have c4b0 : decide (t272 < 0) = false := decide_eq_false c4
    clear c4
    obtain rfl := Option.some.inj H
    go_enter Try.func27, Try.ntmps27
    go_wp2_with (first | ((with_reducible refine gate_dst (N := 2) rfl ?_); refine box_event ?hg (N := 2) ?hd (cs := #[.int .i64 a0_0, .slice A0_1 l0_1.length c0_1]) (t := 27) ?hr ?_; (case hd => rfl); (case hg => rfl); (case hr => first | (go_simp; done) | (go_simp; rfl)); intro gb271 hg w7 hbox hb; have n0_ := Aside0.mk (below_step (by repeat (first | (with_reducible first | exact HB.out | apply below_alloc | apply pw_below_drewN | apply below_drew1) | exact HB.out)) hb); have n1_ := Aside0.mk (hbox); have n2_ := Aside0.mk ((by rw [hg]; exact (below_size (by repeat (first | (with_reducible first | exact HB.out | apply below_alloc | apply pw_below_drewN | apply below_drew1) | exact HB.out))) : w.heap.size ≤ gb271)); have n3_ := Aside0.mk ((by rw [hg]; exact (below_size (by repeat (first | (with_reducible first | exact HB.out | apply below_alloc | apply pw_below_drewN | apply below_drew1) | exact HB.out))) : w.heap.size ≤ gb271)); clear HB; have HB := n0_; have BK271 := n1_; have GW271 := n2_; have GE271 := n3_; clear n0_ n1_ n2_ n3_; clear hb hbox hg; have hcz8_0 : w7.cell? ⟨gb271, 0, none⟩ = some (.int .i64 a0_0) := (blk_cell BK271.out 0).trans rfl; have hcz8_1 : w7.cell? ⟨gb271, 1, none⟩ = some (.slice A0_1 l0_1.length c0_1) := (blk_cell BK271.out 1).trans rfl; have hfz8_0 := blk_frozen BK271.out 0; have hfz8_1 := blk_frozen BK271.out 1) | ((with_reducible refine gate_callee (f := 54) rfl ?_); refine goesL_ (some 8) rfl rfl Try.func54 (by kernel_rfl) rfl #[.slice A0_1 l0_1.length c0_1, .int .i64 a1] rfl (by (try simp only [List.map_toArray, List.map_cons, List.map_nil]); first | done | rfl | (simp only [List.length_drop, List.length_take]; rfl)) ?_; (with_reducible refine (laws_heldInt64SS.calls k _ _ l0_1 a1 t272 _ ?side1 ?side2 A3.out).mono ?_); (case side1 => repeat (first | exact (Kd.C_below HR0_1.out HB.out) | (with_reducible refine Kd.C_alloc ?_ _) | (with_reducible refine Kd.C_drewN ?_ _) | (with_reducible refine Kd.C_drew ?_))); (case side2 => exact HC0_1.out); rintro e w' ⟨rfl, ⟨nd, rfl⟩⟩; refine ⟨_, rfl, ?_⟩))
    go_ret
    exact ⟨by first | rfl | (simp [errW_none, errW_some] <;> rfl) | (simp [*, errW_none, errW_some] <;> rfl), by repeat (first | (with_reducible first | exact HB.out | apply below_alloc | apply pw_below_drewN | apply below_drew1 | refine below_set ?_ GE271.out) | exact HB.out)⟩

end Go.Proofs.Ytenmlpngnpjpjaa.P

namespace Go.Proofs.Ytenmlpngnpjpjaa.P
open Go.RowKit Go.Proofs.YtenmlpngnpjpjaaW.PrintWords Go.Proofs.YtenmlpngnpjpjaaW.PrintLast Go.Proofs.YtenmlpngnpjpjaaW.PrintMore
attribute [local go_sem] max2_int min2_int max_two min_two max_three min_three max_four min_four
set_option linter.unusedVariables false
set_option linter.unusedSimpArgs false

theorem blk_new_at {W : World} {o : Obj} {g : Nat} (h : g = W.heap.size) : (W.alloc o).heap[g]? = some o := by rw [h]; exact blk_new W o
theorem calls_as {P : Program} {f : Nat} {us vs : Array Value} {w : World} {Q : Ending → World → Prop} (e : us = vs) (h : Calls P f us w Q) : Calls P f vs w Q := e ▸ h
end Go.Proofs.Ytenmlpngnpjpjaa.P

namespace Go.Proofs.Ytenmlpngnpjpjaa.P
open Go.RowKit Go.Proofs.YtenmlpngnpjpjaaW.PrintWords Go.Proofs.YtenmlpngnpjpjaaW.PrintLast Go.Proofs.YtenmlpngnpjpjaaW.PrintMore
attribute [local go_sem] max2_int min2_int max_two min_two max_three min_three max_four min_four
set_option linter.unusedVariables false
set_option linter.unusedSimpArgs false

/-! ### laws_FnExactWeightedFamily: function 7 (the law's walk, by a program of this session) -/
set_option maxHeartbeats 8000000 in
set_option maxRecDepth 100000 in
theorem laws_FnExactWeightedFamily.way0 (k : Nat) (A0 : Option Addr) (c0 : Nat) (l0 : List Int) (a1 : Int)  (w : World) (hr0 : Kd.C (Kd.int .i64) w A0 l0.length l0) (hc0 : l0.length ≤ c0) (t1 : decide (1048576 < (l0.length : Int)) = true) (t2 : decide (1048576 < l0.length) = true) :
    Calls Try.prog 7 #[.slice A0 l0.length c0, .int .i64 a1] w fun e w' => e = .returned (.bool true) ∧ Below w.heap.size w w' := by
  have HR0 := Aside0.mk hr0
  have HC0 := Aside0.mk hc0
  clear hr0 hc0
  have HB := Aside0.mk (Below.refl w.heap.size w)
  go_enter Try.func7, Try.ntmps7
  go_wp2
  go_ret
  exact ⟨rfl, by repeat (first | (with_reducible first | exact HB.out | apply below_alloc | apply pw_below_drewN | apply below_drew1) | exact HB.out)⟩
set_option maxHeartbeats 8000000 in
set_option maxRecDepth 100000 in
theorem laws_FnExactWeightedFamily.way1 (k : Nat) (A0 : Option Addr) (c0 : Nat) (l0 : List Int) (a1 : Int) (r7 : Int) (r8 : List (List Int)) (r9 : Int) (m49 : Int) (ys50 : List Int) (m68 : Int) (ys69 : List (List Int)) (w : World) (hr0 : Kd.C (Kd.int .i64) w A0 l0.length l0) (hc0 : l0.length ≤ c0) (t1 : decide (1048576 < (l0.length : Int)) = false) (t2 : decide (1048576 < l0.length) = false) (A3 : laws_toInt64S.f k l0 = some l0) (A10 : spec_WeightedFamily.f k l0 a1 = some (r7, r8, r9)) (A15 : laws_toInt64S.f k l0 = some l0) (A22 : impl_WeightedFamily.f k l0 a1 = some (r7, r8, r9)) (A30 : laws_eqFamily.f k r7 r8 r7 r8 = some true) (A38 : laws_toInt64S.f k l0 = some l0) (A48 : laws_eqInt64S.f k l0 l0 = some true) (A51 : laws_markInt64S.f k l0 1 = some (m49, ys50)) (t59 : decide (m49 < 0) = false) (A60 : laws_eqFamily.f k r7 r8 r7 r8 = some true) (A70 : laws_markFamily.f k r7 r8 1 = some (m68, ys69)) (A78 : laws_heldFamily.f k r7 ys69 1 = some m68) (t86 : decide (m68 < 0) = false) (A87 : laws_toInt64S.f k l0 = some l0) (A97 : impl_WeightedFamily.f k l0 a1 = some (r7, r8, r9)) (A108 : laws_eqFamily.f k r7 r8 r7 r8 = some true) (A119 : laws_heldFamily.f k r7 ys69 1 = some m68) (t130 : decide (m68 < 0) = false) :
    Calls Try.prog 7 #[.slice A0 l0.length c0, .int .i64 a1] w fun e w' => e = .returned (.bool true) ∧ Below w.heap.size w w' := by
  have hu27 := Try.underlying27
  have HR0 := Aside0.mk hr0
  have HC0 := Aside0.mk hc0
  clear hr0 hc0
  have HB := Aside0.mk (Below.refl w.heap.size w)
  replace A3 := Aside0.mk A3
  replace A10 := Aside0.mk A10
  replace A15 := Aside0.mk A15
  replace A22 := Aside0.mk A22
  replace A30 := Aside0.mk A30
  replace A38 := Aside0.mk A38
  replace A48 := Aside0.mk A48
  replace A51 := Aside0.mk A51
  replace A60 := Aside0.mk A60
  replace A70 := Aside0.mk A70
  replace A78 := Aside0.mk A78
  replace A87 := Aside0.mk A87
  replace A97 := Aside0.mk A97
  replace A108 := Aside0.mk A108
  replace A119 := Aside0.mk A119
  go_enter Try.func7, Try.ntmps7
  go_wp2_with (first | ((with_reducible refine gate_callee (f := 25) rfl ?_); refine goesL_ (some 20) rfl rfl Try.func25 (by kernel_rfl) rfl #[.slice A0 l0.length c0] rfl (by (try simp only [List.map_toArray, List.map_cons, List.map_nil]); first | done | rfl | (simp only [List.length_drop, List.length_take]; rfl)) ?_; (with_reducible refine (laws_toInt64S.calls k _ _ l0 l0 _ ?side1 ?side2 A3.out).mono ?_); (case side1 => exact Kd.C_below HR0.out (by repeat (first | (with_reducible first | exact HB.out | apply below_alloc | apply pw_below_drewN | apply below_drew1) | exact HB.out))); (case side2 => exact HC0.out); rintro e w1 ⟨v100_, rfl, ho0_, hb⟩; refine ⟨_, rfl, ?_⟩; have n1_ := Aside0.mk (below_step (by repeat (first | (with_reducible first | exact HB.out | apply below_alloc | apply pw_below_drewN | apply below_drew1) | exact HB.out)) hb); have C4 : Aside0 (w.heap.size ≤ w1.heap.size) := ⟨by have h_ := hb.size; (try simp at h_); omega⟩; have CC := Aside0.mk C4.out; clear HB; have HB := n1_; clear n1_; have HO5 := Aside0.mk (Kd.R_lower (base' := w.heap.size) (Kd.R_mono (Kd.R_bound ho0_) (ok' := fun k_ => w.heap.size ≤ k_ ∧ k_ < w1.heap.size) (fun k_ hk_ => ⟨by have h_ := hk_.2.1; (try simp at h_); omega, hk_.2.2.1⟩)) (by have := CC.out; first | omega | (simp; done) | (simp; omega))); obtain ⟨Az6, cz6, ez6⟩ := Kd.R_slice HO5.out; subst ez6; (try clear hb); (try clear ho0_)) | ((with_reducible refine gate_callee (f := 24) rfl ?_); refine goesL_ (some 22) rfl rfl Try.func24 (by kernel_rfl) rfl #[.slice Az6 l0.length cz6, .int .i64 a1] rfl (by (try simp only [List.map_toArray, List.map_cons, List.map_nil]); first | done | rfl | (simp only [List.length_drop, List.length_take]; rfl)) ?_; (with_reducible refine (spec_WeightedFamily.calls k _ _ l0 a1 r7 r8 r9 _ ?side1 ?side2 A10.out).mono ?_); (case side1 => exact (Kd.R_reads' (n := l0.length) (A := Az6) (c := cz6) (by (with_reducible repeat (first | apply Kd.R_alloc | apply Kd.R_drewN | apply Kd.R_drew)); exact HO5.out)).2.2); (case side2 => exact (Kd.R_reads' (n := l0.length) (A := Az6) (c := cz6) HO5.out).2.1); rintro e w2 ⟨v100_, rfl, ho0_, hb⟩; refine ⟨_, rfl, ?_⟩; have n1_ := Aside0.mk (Kd.R_below (by (with_reducible repeat (first | apply Kd.R_alloc | apply Kd.R_drewN | apply Kd.R_drew)); exact HO5.out) hb); have n2_ := Aside0.mk (below_step (by repeat (first | (with_reducible first | exact HB.out | apply below_alloc | apply pw_below_drewN | apply below_drew1) | exact HB.out)) hb); have C11 : Aside0 (w1.heap.size ≤ w2.heap.size) := ⟨by have h_ := hb.size; (try simp at h_); omega⟩; have CCn_ := Aside0.mk (And.intro CC.out C11.out); clear CC; have CC := CCn_; clear CCn_; clear HO5; clear HB; have HO5 := n1_; clear n1_; have HB := n2_; clear n2_; have HO12 := Aside0.mk (Kd.S_lower (base' := w.heap.size) (Kd.S_mono (Kd.S_bound ho0_) (ok' := fun k_ => w1.heap.size ≤ k_ ∧ k_ < w2.heap.size) (fun k_ hk_ => ⟨by have h_ := hk_.2.1; (try simp at h_); omega, hk_.2.2.1⟩)) (by have := CC.out; first | omega | (simp; done) | (simp; omega))); obtain ⟨Az13, cz13, ez13⟩ := Kd.S_slice HO12.out; subst ez13; (try clear hb); (try clear ho0_)) | ((with_reducible refine gate_callee (f := 25) rfl ?_); refine goesL_ (some 26) rfl rfl Try.func25 (by kernel_rfl) rfl #[.slice A0 l0.length c0] rfl (by (try simp only [List.map_toArray, List.map_cons, List.map_nil]); first | done | rfl | (simp only [List.length_drop, List.length_take]; rfl)) ?_; (with_reducible refine (laws_toInt64S.calls k _ _ l0 l0 _ ?side1 ?side2 A15.out).mono ?_); (case side1 => exact Kd.C_below HR0.out (by repeat (first | (with_reducible first | exact HB.out | apply below_alloc | apply pw_below_drewN | apply below_drew1) | exact HB.out))); (case side2 => exact HC0.out); rintro e w3 ⟨v100_, rfl, ho0_, hb⟩; refine ⟨_, rfl, ?_⟩; have n1_ := Aside0.mk (Kd.S_below (by (with_reducible repeat (first | apply Kd.S_alloc | apply Kd.S_drewN | apply Kd.S_drew)); exact HO12.out) hb); have n2_ := Aside0.mk (blk_below (g := w2.heap.size) (o := .cells #[.int .i64 r7, .slice Az13 r8.length cz13] 27 (0, 0)) (by repeat (first | exact blk_new_at (by simp) | (with_reducible refine blk_drewN ?_ _) | (with_reducible refine blk_drew ?_) | (with_reducible refine blk_alloc ?_ _))) hb); have n3_ := Aside0.mk (below_step (by repeat (first | (with_reducible first | exact HB.out | apply below_alloc | apply pw_below_drewN | apply below_drew1) | exact HB.out)) hb); have C16 : Aside0 (w2.heap.size + 1 ≤ w3.heap.size) := ⟨by have h_ := hb.size; (try simp at h_); omega⟩; have CCn_ := Aside0.mk (And.intro CC.out C16.out); clear CC; have CC := CCn_; clear CCn_; clear HO12; clear HB; have HO12 := n1_; clear n1_; have HX14 := n2_; clear n2_; have HB := n3_; clear n3_; have HO17 := Aside0.mk (Kd.R_lower (base' := w.heap.size) (Kd.R_mono (Kd.R_bound ho0_) (ok' := fun k_ => w2.heap.size + 1 ≤ k_ ∧ k_ < w3.heap.size) (fun k_ hk_ => ⟨by have h_ := hk_.2.1; (try simp at h_); omega, hk_.2.2.1⟩)) (by have := CC.out; first | omega | (simp; done) | (simp; omega))); obtain ⟨Az18, cz18, ez18⟩ := Kd.R_slice HO17.out; subst ez18; (try clear hb); (try clear ho0_); have hl19 : w2.heap.size < w3.heap.size := blk_lt HX14.out; have hx20 : w3.cell? ⟨w2.heap.size, 0, none⟩ = some (.int .i64 r7) := (blk_cell HX14.out 0).trans rfl; have hx21 : w3.cell? ⟨w2.heap.size, 1, none⟩ = some (.slice Az13 r8.length cz13) := (blk_cell HX14.out 1).trans rfl) | ((with_reducible refine gate_callee (f := 26) rfl ?_); refine goesL_ (some 30) rfl rfl Try.func26 (by kernel_rfl) rfl #[.slice Az18 l0.length cz18, .int .i64 a1] rfl (by (try simp only [List.map_toArray, List.map_cons, List.map_nil]); first | done | rfl | (simp only [List.length_drop, List.length_take]; rfl)) ?_; (with_reducible refine (impl_WeightedFamily.calls k _ _ l0 a1 r7 r8 r9 _ ?side1 ?side2 A22.out).mono ?_); (case side1 => exact (Kd.R_reads' (n := l0.length) (A := Az18) (c := cz18) (by (with_reducible repeat (first | apply Kd.R_alloc | apply Kd.R_drewN | apply Kd.R_drew)); exact HO17.out)).2.2); (case side2 => exact (Kd.R_reads' (n := l0.length) (A := Az18) (c := cz18) HO17.out).2.1); rintro e w4 ⟨v100_, rfl, ho0_, hb⟩; refine ⟨_, rfl, ?_⟩; have n1_ := Aside0.mk (Kd.S_below (by (with_reducible repeat (first | apply Kd.S_alloc | apply Kd.S_drewN | apply Kd.S_drew)); exact HO12.out) hb); have n2_ := Aside0.mk (Kd.R_below (by (with_reducible repeat (first | apply Kd.R_alloc | apply Kd.R_drewN | apply Kd.R_drew)); exact HO17.out) hb); have n3_ := Aside0.mk (blk_below (g := w2.heap.size) (o := .cells #[.int .i64 r7, .slice Az13 r8.length cz13] 27 (0, 0)) (by (with_reducible repeat (first | refine blk_drewN ?_ _ | refine blk_drew ?_ | refine blk_alloc ?_ _)); exact HX14.out) hb); have n4_ := Aside0.mk (below_step (by repeat (first | (with_reducible first | exact HB.out | apply below_alloc | apply pw_below_drewN | apply below_drew1) | exact HB.out)) hb); have C23 : Aside0 (w3.heap.size ≤ w4.heap.size) := ⟨by have h_ := hb.size; (try simp at h_); omega⟩; have CCn_ := Aside0.mk (And.intro CC.out C23.out); clear CC; have CC := CCn_; clear CCn_; clear HO12; clear HO17; clear HX14; clear HB; clear hl19; clear hx20; clear hx21; have HO12 := n1_; clear n1_; have HO17 := n2_; clear n2_; have HX14 := n3_; clear n3_; have HB := n4_; clear n4_; have HO24 := Aside0.mk (Kd.S_lower (base' := w.heap.size) (Kd.S_mono (Kd.S_bound ho0_) (ok' := fun k_ => w3.heap.size ≤ k_ ∧ k_ < w4.heap.size) (fun k_ hk_ => ⟨by have h_ := hk_.2.1; (try simp at h_); omega, hk_.2.2.1⟩)) (by have := CC.out; first | omega | (simp; done) | (simp; omega))); obtain ⟨Az25, cz25, ez25⟩ := Kd.S_slice HO24.out; subst ez25; (try clear hb); (try clear ho0_); have hl26 : w2.heap.size < w4.heap.size := blk_lt HX14.out; have hx27 : w4.cell? ⟨w2.heap.size, 0, none⟩ = some (.int .i64 r7) := (blk_cell HX14.out 0).trans rfl; have hx28 : w4.cell? ⟨w2.heap.size, 1, none⟩ = some (.slice Az13 r8.length cz13) := (blk_cell HX14.out 1).trans rfl) | ((with_reducible refine gate_callee (f := 13) rfl ?_); refine goesL_ (some 35) rfl rfl Try.func13 (by kernel_rfl) rfl #[.agg #[.int .i64 r7, .slice Az25 r8.length cz25], .agg #[.int .i64 r7, .slice Az13 r8.length cz13]] rfl (by (try simp only [List.map_toArray, List.map_cons, List.map_nil]); first | done | rfl | (simp only [List.length_drop, List.length_take]; rfl)) ?_; (with_reducible refine (laws_eqFamily.calls k r7 _ _ r8 r7 _ _ r8 true _ ?side1 ?side2 ?side3 ?side4 A30.out).mono ?_); (case side1 => exact (Kd.S_reads' (n := r8.length) (A := Az25) (c := cz25) (by (with_reducible repeat (first | apply Kd.S_alloc | apply Kd.S_drewN | apply Kd.S_drew)); exact HO24.out)).2.2); (case side2 => exact (Kd.S_reads' (n := r8.length) (A := Az25) (c := cz25) HO24.out).2.1); (case side3 => exact (Kd.S_reads' (n := r8.length) (A := Az13) (c := cz13) (by (with_reducible repeat (first | apply Kd.S_alloc | apply Kd.S_drewN | apply Kd.S_drew)); exact HO12.out)).2.2); (case side4 => exact (Kd.S_reads' (n := r8.length) (A := Az13) (c := cz13) HO12.out).2.1); rintro e w5 ⟨rfl, hb⟩; refine ⟨_, rfl, ?_⟩; have n1_ := Aside0.mk (Kd.S_below (by (with_reducible repeat (first | apply Kd.S_alloc | apply Kd.S_drewN | apply Kd.S_drew)); exact HO12.out) hb); have n2_ := Aside0.mk (Kd.R_below (by (with_reducible repeat (first | apply Kd.R_alloc | apply Kd.R_drewN | apply Kd.R_drew)); exact HO17.out) hb); have n3_ := Aside0.mk (Kd.S_below (by (with_reducible repeat (first | apply Kd.S_alloc | apply Kd.S_drewN | apply Kd.S_drew)); exact HO24.out) hb); have n4_ := Aside0.mk (blk_below (g := w2.heap.size) (o := .cells #[.int .i64 r7, .slice Az13 r8.length cz13] 27 (0, 0)) (by (with_reducible repeat (first | refine blk_drewN ?_ _ | refine blk_drew ?_ | refine blk_alloc ?_ _)); exact HX14.out) hb); have n5_ := Aside0.mk (blk_below (g := w4.heap.size) (o := .cells #[.int .i64 r7, .slice Az25 r8.length cz25] 27 (0, 0)) (by repeat (first | exact blk_new_at (by simp) | (with_reducible refine blk_drewN ?_ _) | (with_reducible refine blk_drew ?_) | (with_reducible refine blk_alloc ?_ _))) hb); have n6_ := Aside0.mk (below_step (by repeat (first | (with_reducible first | exact HB.out | apply below_alloc | apply pw_below_drewN | apply below_drew1) | exact HB.out)) hb); have C31 : Aside0 (w4.heap.size + 1 ≤ w5.heap.size) := ⟨by have h_ := hb.size; (try simp at h_); omega⟩; have CCn_ := Aside0.mk (And.intro CC.out C31.out); clear CC; have CC := CCn_; clear CCn_; clear HO12; clear HO17; clear HO24; clear HX14; clear HB; clear hl26; clear hx27; clear hx28; have HO12 := n1_; clear n1_; have HO17 := n2_; clear n2_; have HO24 := n3_; clear n3_; have HX14 := n4_; clear n4_; have HX29 := n5_; clear n5_; have HB := n6_; clear n6_; (try clear hb); have hl32 : w2.heap.size < w5.heap.size := blk_lt HX14.out; have hx33 : w5.cell? ⟨w2.heap.size, 0, none⟩ = some (.int .i64 r7) := (blk_cell HX14.out 0).trans rfl; have hx34 : w5.cell? ⟨w2.heap.size, 1, none⟩ = some (.slice Az13 r8.length cz13) := (blk_cell HX14.out 1).trans rfl; have hl35 : w4.heap.size < w5.heap.size := blk_lt HX29.out; have hx36 : w5.cell? ⟨w4.heap.size, 0, none⟩ = some (.int .i64 r7) := (blk_cell HX29.out 0).trans rfl; have hx37 : w5.cell? ⟨w4.heap.size, 1, none⟩ = some (.slice Az25 r8.length cz25) := (blk_cell HX29.out 1).trans rfl) | ((with_reducible refine gate_callee (f := 25) rfl ?_); refine goesL_ (some 44) rfl rfl Try.func25 (by kernel_rfl) rfl #[.slice A0 l0.length c0] rfl (by (try simp only [List.map_toArray, List.map_cons, List.map_nil]); first | done | rfl | (simp only [List.length_drop, List.length_take]; rfl)) ?_; (with_reducible refine (laws_toInt64S.calls k _ _ l0 l0 _ ?side1 ?side2 A38.out).mono ?_); (case side1 => exact Kd.C_below HR0.out (by repeat (first | (with_reducible first | exact HB.out | apply below_alloc | apply pw_below_drewN | apply below_drew1) | exact HB.out))); (case side2 => exact HC0.out); rintro e w6 ⟨v100_, rfl, ho0_, hb⟩; refine ⟨_, rfl, ?_⟩; have n1_ := Aside0.mk (Kd.S_below (by (with_reducible repeat (first | apply Kd.S_alloc | apply Kd.S_drewN | apply Kd.S_drew)); exact HO12.out) hb); have n2_ := Aside0.mk (Kd.R_below (by (with_reducible repeat (first | apply Kd.R_alloc | apply Kd.R_drewN | apply Kd.R_drew)); exact HO17.out) hb); have n3_ := Aside0.mk (Kd.S_below (by (with_reducible repeat (first | apply Kd.S_alloc | apply Kd.S_drewN | apply Kd.S_drew)); exact HO24.out) hb); have n4_ := Aside0.mk (blk_below (g := w2.heap.size) (o := .cells #[.int .i64 r7, .slice Az13 r8.length cz13] 27 (0, 0)) (by (with_reducible repeat (first | refine blk_drewN ?_ _ | refine blk_drew ?_ | refine blk_alloc ?_ _)); exact HX14.out) hb); have n5_ := Aside0.mk (blk_below (g := w4.heap.size) (o := .cells #[.int .i64 r7, .slice Az25 r8.length cz25] 27 (0, 0)) (by (with_reducible repeat (first | refine blk_drewN ?_ _ | refine blk_drew ?_ | refine blk_alloc ?_ _)); exact HX29.out) hb); have n6_ := Aside0.mk (below_step (by repeat (first | (with_reducible first | exact HB.out | apply below_alloc | apply pw_below_drewN | apply below_drew1) | exact HB.out)) hb); have C39 : Aside0 (w5.heap.size ≤ w6.heap.size) := ⟨by have h_ := hb.size; (try simp at h_); omega⟩; have CCn_ := Aside0.mk (And.intro CC.out C39.out); clear CC; have CC := CCn_; clear CCn_; clear HO12; clear HO17; clear HO24; clear HX14; clear HX29; clear HB; clear hl32; clear hx33; clear hx34; clear hl35; clear hx36; clear hx37; have HO12 := n1_; clear n1_; have HO17 := n2_; clear n2_; have HO24 := n3_; clear n3_; have HX14 := n4_; clear n4_; have HX29 := n5_; clear n5_; have HB := n6_; clear n6_; have HO40 := Aside0.mk (Kd.R_lower (base' := w.heap.size) (Kd.R_mono (Kd.R_bound ho0_) (ok' := fun k_ => w5.heap.size ≤ k_ ∧ k_ < w6.heap.size) (fun k_ hk_ => ⟨by have h_ := hk_.2.1; (try simp at h_); omega, hk_.2.2.1⟩)) (by have := CC.out; first | omega | (simp; done) | (simp; omega))); obtain ⟨Az41, cz41, ez41⟩ := Kd.R_slice HO40.out; subst ez41; (try clear hb); (try clear ho0_); have hl42 : w2.heap.size < w6.heap.size := blk_lt HX14.out; have hx43 : w6.cell? ⟨w2.heap.size, 0, none⟩ = some (.int .i64 r7) := (blk_cell HX14.out 0).trans rfl; have hx44 : w6.cell? ⟨w2.heap.size, 1, none⟩ = some (.slice Az13 r8.length cz13) := (blk_cell HX14.out 1).trans rfl; have hl45 : w4.heap.size < w6.heap.size := blk_lt HX29.out; have hx46 : w6.cell? ⟨w4.heap.size, 0, none⟩ = some (.int .i64 r7) := (blk_cell HX29.out 0).trans rfl; have hx47 : w6.cell? ⟨w4.heap.size, 1, none⟩ = some (.slice Az25 r8.length cz25) := (blk_cell HX29.out 1).trans rfl) | ((with_reducible refine gate_callee (f := 18) rfl ?_); refine goesL_ (some 45) rfl rfl Try.func18 (by kernel_rfl) rfl #[.slice Az18 l0.length cz18, .slice Az41 l0.length cz41] rfl (by (try simp only [List.map_toArray, List.map_cons, List.map_nil]); first | done | rfl | (simp only [List.length_drop, List.length_take]; rfl)) ?_; (with_reducible refine (laws_eqInt64S.calls k _ _ l0 _ _ l0 true _ ?side1 ?side2 ?side3 ?side4 A48.out).mono ?_); (case side1 => exact (Kd.R_reads' (n := l0.length) (A := Az18) (c := cz18) (by (with_reducible repeat (first | apply Kd.R_alloc | apply Kd.R_drewN | apply Kd.R_drew)); exact HO17.out)).2.2); (case side2 => exact (Kd.R_reads' (n := l0.length) (A := Az18) (c := cz18) HO17.out).2.1); (case side3 => exact (Kd.R_reads' (n := l0.length) (A := Az41) (c := cz41) (by (with_reducible repeat (first | apply Kd.R_alloc | apply Kd.R_drewN | apply Kd.R_drew)); exact HO40.out)).2.2); (case side4 => exact (Kd.R_reads' (n := l0.length) (A := Az41) (c := cz41) HO40.out).2.1); rintro e w' ⟨rfl, ⟨nd, rfl⟩⟩; refine ⟨_, rfl, ?_⟩) | ((with_reducible refine gate_callee (f := 20) rfl ?_); refine goesL_ (some 49) rfl rfl Try.func20 (by kernel_rfl) rfl #[.slice Az18 l0.length cz18, .int .i64 1] rfl (by (try simp only [List.map_toArray, List.map_cons, List.map_nil]); first | done | rfl | (simp only [List.length_drop, List.length_take]; rfl)) ?_; (with_reducible refine (laws_markInt64S.callsM k (fun k_ => w2.heap.size + 1 ≤ k_ ∧ k_ < w3.heap.size) (.slice Az18 l0.length cz18) l0 1 m49 ys50 w _ ?side1 ?side2 A51.out).mono ?_); (case side1 => repeat (first | (with_reducible first | exact HB.out | apply below_alloc | apply pw_below_drewN | apply below_drew1) | exact HB.out)); (case side2 => exact (by (with_reducible repeat (first | apply Kd.R_alloc | apply Kd.R_drewN | apply Kd.R_drew)); exact HO17.out)); rintro e w7 ⟨rfl, hm0_, hbk, hk⟩; refine ⟨_, rfl, ?_⟩; have n1_ := Aside0.mk (Kd.S_kept (by (with_reducible repeat (first | apply Kd.S_alloc | apply Kd.S_drewN | apply Kd.S_drew)); exact HO12.out) hk (fun k_ hk_ hs_ => by have := CC.out; have h1_ := hk_; have h2_ := hs_; omega)); have n2_ := Aside0.mk (Kd.S_kept (by (with_reducible repeat (first | apply Kd.S_alloc | apply Kd.S_drewN | apply Kd.S_drew)); exact HO24.out) hk (fun k_ hk_ hs_ => by have := CC.out; have h1_ := hk_; have h2_ := hs_; omega)); have n3_ := Aside0.mk (blk_kept (g := w2.heap.size) (o := .cells #[.int .i64 r7, .slice Az13 r8.length cz13] 27 (0, 0)) (by (with_reducible repeat (first | refine blk_drewN ?_ _ | refine blk_drew ?_ | refine blk_alloc ?_ _)); exact HX14.out) hk (fun hs_ => by have := CC.out; have h2_ := hs_; omega)); have n4_ := Aside0.mk (blk_kept (g := w4.heap.size) (o := .cells #[.int .i64 r7, .slice Az25 r8.length cz25] 27 (0, 0)) (by (with_reducible repeat (first | refine blk_drewN ?_ _ | refine blk_drew ?_ | refine blk_alloc ?_ _)); exact HX29.out) hk (fun hs_ => by have := CC.out; have h2_ := hs_; omega)); have n5_ := Aside0.mk (hbk); have C52 : Aside0 (w6.heap.size ≤ w7.heap.size) := ⟨by have h_ := hk.1; (try simp at h_); omega⟩; have CCn_ := Aside0.mk (And.intro CC.out C52.out); clear CC; have CC := CCn_; clear CCn_; clear HO12; clear HO24; clear HX14; clear HX29; clear HB; clear hl42; clear hx43; clear hx44; clear hl45; clear hx46; clear hx47; have HO12 := n1_; clear n1_; have HO24 := n2_; clear n2_; have HX14 := n3_; clear n3_; have HX29 := n4_; clear n4_; have HB := n5_; clear n5_; clear HO17; have HO17 := Aside0.mk hm0_; (try clear hk); (try clear hbk); (try clear hm0_); have hl53 : w2.heap.size < w7.heap.size := blk_lt HX14.out; have hx54 : w7.cell? ⟨w2.heap.size, 0, none⟩ = some (.int .i64 r7) := (blk_cell HX14.out 0).trans rfl; have hx55 : w7.cell? ⟨w2.heap.size, 1, none⟩ = some (.slice Az13 r8.length cz13) := (blk_cell HX14.out 1).trans rfl; have hl56 : w4.heap.size < w7.heap.size := blk_lt HX29.out; have hx57 : w7.cell? ⟨w4.heap.size, 0, none⟩ = some (.int .i64 r7) := (blk_cell HX29.out 0).trans rfl; have hx58 : w7.cell? ⟨w4.heap.size, 1, none⟩ = some (.slice Az25 r8.length cz25) := (blk_cell HX29.out 1).trans rfl) | (go_at_call 13; (with_reducible refine (laws_eqFamily.calls k r7 _ _ r8 r7 _ _ r8 true _ ?side1 ?side2 ?side3 ?side4 A60.out).mono ?_); (case side1 => exact (Kd.S_reads' (n := r8.length) (A := Az25) (c := cz25) (by (with_reducible repeat (first | apply Kd.S_alloc | apply Kd.S_drewN | apply Kd.S_drew)); exact HO24.out)).2.2); (case side2 => exact (Kd.S_reads' (n := r8.length) (A := Az25) (c := cz25) HO24.out).2.1); (case side3 => exact (Kd.S_reads' (n := r8.length) (A := Az13) (c := cz13) (by (with_reducible repeat (first | apply Kd.S_alloc | apply Kd.S_drewN | apply Kd.S_drew)); exact HO12.out)).2.2); (case side4 => exact (Kd.S_reads' (n := r8.length) (A := Az13) (c := cz13) HO12.out).2.1); rintro e w8 ⟨rfl, hb⟩; have n1_ := Aside0.mk (Kd.S_below (by (with_reducible repeat (first | apply Kd.S_alloc | apply Kd.S_drewN | apply Kd.S_drew)); exact HO12.out) hb); have n2_ := Aside0.mk (Kd.R_below (by (with_reducible repeat (first | apply Kd.R_alloc | apply Kd.R_drewN | apply Kd.R_drew)); exact HO17.out) hb); have n3_ := Aside0.mk (Kd.S_below (by (with_reducible repeat (first | apply Kd.S_alloc | apply Kd.S_drewN | apply Kd.S_drew)); exact HO24.out) hb); have n4_ := Aside0.mk (blk_below (g := w2.heap.size) (o := .cells #[.int .i64 r7, .slice Az13 r8.length cz13] 27 (0, 0)) (by (with_reducible repeat (first | refine blk_drewN ?_ _ | refine blk_drew ?_ | refine blk_alloc ?_ _)); exact HX14.out) hb); have n5_ := Aside0.mk (blk_below (g := w4.heap.size) (o := .cells #[.int .i64 r7, .slice Az25 r8.length cz25] 27 (0, 0)) (by (with_reducible repeat (first | refine blk_drewN ?_ _ | refine blk_drew ?_ | refine blk_alloc ?_ _)); exact HX29.out) hb); have n6_ := Aside0.mk (below_step (by repeat (first | (with_reducible first | exact HB.out | apply below_alloc | apply pw_below_drewN | apply below_drew1) | exact HB.out)) hb); have C61 : Aside0 (w7.heap.size ≤ w8.heap.size) := ⟨by have h_ := hb.size; (try simp at h_); omega⟩; have CCn_ := Aside0.mk (And.intro CC.out C61.out); clear CC; have CC := CCn_; clear CCn_; clear HO12; clear HO17; clear HO24; clear HX14; clear HX29; clear HB; clear hl53; clear hx54; clear hx55; clear hl56; clear hx57; clear hx58; have HO12 := n1_; clear n1_; have HO17 := n2_; clear n2_; have HO24 := n3_; clear n3_; have HX14 := n4_; clear n4_; have HX29 := n5_; clear n5_; have HB := n6_; clear n6_; (try clear hb); have hl62 : w2.heap.size < w8.heap.size := blk_lt HX14.out; have hx63 : w8.cell? ⟨w2.heap.size, 0, none⟩ = some (.int .i64 r7) := (blk_cell HX14.out 0).trans rfl; have hx64 : w8.cell? ⟨w2.heap.size, 1, none⟩ = some (.slice Az13 r8.length cz13) := (blk_cell HX14.out 1).trans rfl; have hl65 : w4.heap.size < w8.heap.size := blk_lt HX29.out; have hx66 : w8.cell? ⟨w4.heap.size, 0, none⟩ = some (.int .i64 r7) := (blk_cell HX29.out 0).trans rfl; have hx67 : w8.cell? ⟨w4.heap.size, 1, none⟩ = some (.slice Az25 r8.length cz25) := (blk_cell HX29.out 1).trans rfl) | ((with_reducible refine gate_callee (f := 19) rfl ?_); refine goesL_ (some 65) rfl rfl Try.func19 (by kernel_rfl) rfl #[.agg #[.int .i64 r7, .slice Az25 r8.length cz25], .int .i64 1] rfl (by (try simp only [List.map_toArray, List.map_cons, List.map_nil]); first | done | rfl | (simp only [List.length_drop, List.length_take]; rfl)) ?_; (with_reducible refine (laws_markFamily.callsM k r7 (fun k_ => w3.heap.size ≤ k_ ∧ k_ < w4.heap.size) (.slice Az25 r8.length cz25) r8 1 m68 ys69 w _ ?side1 ?side2 A70.out).mono ?_); (case side1 => repeat (first | (with_reducible first | exact HB.out | apply below_alloc | apply pw_below_drewN | apply below_drew1) | exact HB.out)); (case side2 => exact (by (with_reducible repeat (first | apply Kd.S_alloc | apply Kd.S_drewN | apply Kd.S_drew)); exact HO24.out)); rintro e w9 ⟨rfl, hm0_, hbk, hk⟩; refine ⟨_, rfl, ?_⟩; have n1_ := Aside0.mk (Kd.S_kept (by (with_reducible repeat (first | apply Kd.S_alloc | apply Kd.S_drewN | apply Kd.S_drew)); exact HO12.out) hk (fun k_ hk_ hs_ => by have := CC.out; have h1_ := hk_; have h2_ := hs_; omega)); have n2_ := Aside0.mk (Kd.R_kept (by (with_reducible repeat (first | apply Kd.R_alloc | apply Kd.R_drewN | apply Kd.R_drew)); exact HO17.out) hk (fun k_ hk_ hs_ => by have := CC.out; have h1_ := hk_; have h2_ := hs_; omega)); have n3_ := Aside0.mk (blk_kept (g := w2.heap.size) (o := .cells #[.int .i64 r7, .slice Az13 r8.length cz13] 27 (0, 0)) (by (with_reducible repeat (first | refine blk_drewN ?_ _ | refine blk_drew ?_ | refine blk_alloc ?_ _)); exact HX14.out) hk (fun hs_ => by have := CC.out; have h2_ := hs_; omega)); have n4_ := Aside0.mk (blk_kept (g := w4.heap.size) (o := .cells #[.int .i64 r7, .slice Az25 r8.length cz25] 27 (0, 0)) (by (with_reducible repeat (first | refine blk_drewN ?_ _ | refine blk_drew ?_ | refine blk_alloc ?_ _)); exact HX29.out) hk (fun hs_ => by have := CC.out; have h2_ := hs_; omega)); have n5_ := Aside0.mk (hbk); have C71 : Aside0 (w8.heap.size ≤ w9.heap.size) := ⟨by have h_ := hk.1; (try simp at h_); omega⟩; have CCn_ := Aside0.mk (And.intro CC.out C71.out); clear CC; have CC := CCn_; clear CCn_; clear HO12; clear HO17; clear HX14; clear HX29; clear HB; clear hl62; clear hx63; clear hx64; clear hl65; clear hx66; clear hx67; have HO12 := n1_; clear n1_; have HO17 := n2_; clear n2_; have HX14 := n3_; clear n3_; have HX29 := n4_; clear n4_; have HB := n5_; clear n5_; clear HO24; have HO24 := Aside0.mk hm0_; (try clear hk); (try clear hbk); (try clear hm0_); have hl72 : w2.heap.size < w9.heap.size := blk_lt HX14.out; have hx73 : w9.cell? ⟨w2.heap.size, 0, none⟩ = some (.int .i64 r7) := (blk_cell HX14.out 0).trans rfl; have hx74 : w9.cell? ⟨w2.heap.size, 1, none⟩ = some (.slice Az13 r8.length cz13) := (blk_cell HX14.out 1).trans rfl; have hl75 : w4.heap.size < w9.heap.size := blk_lt HX29.out; have hx76 : w9.cell? ⟨w4.heap.size, 0, none⟩ = some (.int .i64 r7) := (blk_cell HX29.out 0).trans rfl; have hx77 : w9.cell? ⟨w4.heap.size, 1, none⟩ = some (.slice Az25 r8.length cz25) := (blk_cell HX29.out 1).trans rfl) | ((with_reducible refine gate_callee (f := 27) rfl ?_); refine goesL_ (some 68) rfl rfl Try.func27 (by kernel_rfl) rfl #[.agg #[.int .i64 r7, .slice Az25 r8.length cz25], .int .i64 1] rfl (by (try simp only [List.map_toArray, List.map_cons, List.map_nil]); first | done | rfl | (simp only [List.length_drop, List.length_take]; rfl)) ?_; (with_reducible refine (calls_as ?eq_ (laws_heldFamily.calls k r7 Az25 cz25 ys69 1 m68 _ ?side1 ?side2 A78.out)).mono ?_); (case eq_ => rw [show ys69.length = r8.length from (Kd.S_reads' HO24.out).1.symm]); (case side1 => exact (Kd.S_reads' (n := r8.length) (A := Az25) (c := cz25) (by (with_reducible repeat (first | apply Kd.S_alloc | apply Kd.S_drewN | apply Kd.S_drew)); exact HO24.out)).2.2); (case side2 => exact Nat.le_trans (Nat.le_of_eq (Kd.S_reads' HO24.out).1.symm) (Kd.S_reads' HO24.out).2.1); rintro e w10 ⟨rfl, hb⟩; refine ⟨_, rfl, ?_⟩; have n1_ := Aside0.mk (Kd.S_below (by (with_reducible repeat (first | apply Kd.S_alloc | apply Kd.S_drewN | apply Kd.S_drew)); exact HO12.out) hb); have n2_ := Aside0.mk (Kd.R_below (by (with_reducible repeat (first | apply Kd.R_alloc | apply Kd.R_drewN | apply Kd.R_drew)); exact HO17.out) hb); have n3_ := Aside0.mk (Kd.S_below (by (with_reducible repeat (first | apply Kd.S_alloc | apply Kd.S_drewN | apply Kd.S_drew)); exact HO24.out) hb); have n4_ := Aside0.mk (blk_below (g := w2.heap.size) (o := .cells #[.int .i64 r7, .slice Az13 r8.length cz13] 27 (0, 0)) (by (with_reducible repeat (first | refine blk_drewN ?_ _ | refine blk_drew ?_ | refine blk_alloc ?_ _)); exact HX14.out) hb); have n5_ := Aside0.mk (blk_below (g := w4.heap.size) (o := .cells #[.int .i64 r7, .slice Az25 r8.length cz25] 27 (0, 0)) (by (with_reducible repeat (first | refine blk_drewN ?_ _ | refine blk_drew ?_ | refine blk_alloc ?_ _)); exact HX29.out) hb); have n6_ := Aside0.mk (below_step (by repeat (first | (with_reducible first | exact HB.out | apply below_alloc | apply pw_below_drewN | apply below_drew1) | exact HB.out)) hb); have C79 : Aside0 (w9.heap.size ≤ w10.heap.size) := ⟨by have h_ := hb.size; (try simp at h_); omega⟩; have CCn_ := Aside0.mk (And.intro CC.out C79.out); clear CC; have CC := CCn_; clear CCn_; clear HO12; clear HO17; clear HO24; clear HX14; clear HX29; clear HB; clear hl72; clear hx73; clear hx74; clear hl75; clear hx76; clear hx77; have HO12 := n1_; clear n1_; have HO17 := n2_; clear n2_; have HO24 := n3_; clear n3_; have HX14 := n4_; clear n4_; have HX29 := n5_; clear n5_; have HB := n6_; clear n6_; (try clear hb); have hl80 : w2.heap.size < w10.heap.size := blk_lt HX14.out; have hx81 : w10.cell? ⟨w2.heap.size, 0, none⟩ = some (.int .i64 r7) := (blk_cell HX14.out 0).trans rfl; have hx82 : w10.cell? ⟨w2.heap.size, 1, none⟩ = some (.slice Az13 r8.length cz13) := (blk_cell HX14.out 1).trans rfl; have hl83 : w4.heap.size < w10.heap.size := blk_lt HX29.out; have hx84 : w10.cell? ⟨w4.heap.size, 0, none⟩ = some (.int .i64 r7) := (blk_cell HX29.out 0).trans rfl; have hx85 : w10.cell? ⟨w4.heap.size, 1, none⟩ = some (.slice Az25 r8.length cz25) := (blk_cell HX29.out 1).trans rfl) | ((with_reducible refine gate_callee (f := 25) rfl ?_); refine goesL_ (some 76) rfl rfl Try.func25 (by kernel_rfl) rfl #[.slice A0 l0.length c0] rfl (by (try simp only [List.map_toArray, List.map_cons, List.map_nil]); first | done | rfl | (simp only [List.length_drop, List.length_take]; rfl)) ?_; (with_reducible refine (laws_toInt64S.calls k _ _ l0 l0 _ ?side1 ?side2 A87.out).mono ?_); (case side1 => exact Kd.C_below HR0.out (by repeat (first | (with_reducible first | exact HB.out | apply below_alloc | apply pw_below_drewN | apply below_drew1) | exact HB.out))); (case side2 => exact HC0.out); rintro e w11 ⟨v100_, rfl, ho0_, hb⟩; refine ⟨_, rfl, ?_⟩; have n1_ := Aside0.mk (Kd.S_below (by (with_reducible repeat (first | apply Kd.S_alloc | apply Kd.S_drewN | apply Kd.S_drew)); exact HO12.out) hb); have n2_ := Aside0.mk (Kd.R_below (by (with_reducible repeat (first | apply Kd.R_alloc | apply Kd.R_drewN | apply Kd.R_drew)); exact HO17.out) hb); have n3_ := Aside0.mk (Kd.S_below (by (with_reducible repeat (first | apply Kd.S_alloc | apply Kd.S_drewN | apply Kd.S_drew)); exact HO24.out) hb); have n4_ := Aside0.mk (blk_below (g := w2.heap.size) (o := .cells #[.int .i64 r7, .slice Az13 r8.length cz13] 27 (0, 0)) (by (with_reducible repeat (first | refine blk_drewN ?_ _ | refine blk_drew ?_ | refine blk_alloc ?_ _)); exact HX14.out) hb); have n5_ := Aside0.mk (blk_below (g := w4.heap.size) (o := .cells #[.int .i64 r7, .slice Az25 r8.length cz25] 27 (0, 0)) (by (with_reducible repeat (first | refine blk_drewN ?_ _ | refine blk_drew ?_ | refine blk_alloc ?_ _)); exact HX29.out) hb); have n6_ := Aside0.mk (below_step (by repeat (first | (with_reducible first | exact HB.out | apply below_alloc | apply pw_below_drewN | apply below_drew1) | exact HB.out)) hb); have C88 : Aside0 (w10.heap.size ≤ w11.heap.size) := ⟨by have h_ := hb.size; (try simp at h_); omega⟩; have CCn_ := Aside0.mk (And.intro CC.out C88.out); clear CC; have CC := CCn_; clear CCn_; clear HO12; clear HO17; clear HO24; clear HX14; clear HX29; clear HB; clear hl80; clear hx81; clear hx82; clear hl83; clear hx84; clear hx85; have HO12 := n1_; clear n1_; have HO17 := n2_; clear n2_; have HO24 := n3_; clear n3_; have HX14 := n4_; clear n4_; have HX29 := n5_; clear n5_; have HB := n6_; clear n6_; have HO89 := Aside0.mk (Kd.R_lower (base' := w.heap.size) (Kd.R_mono (Kd.R_bound ho0_) (ok' := fun k_ => w10.heap.size ≤ k_ ∧ k_ < w11.heap.size) (fun k_ hk_ => ⟨by have h_ := hk_.2.1; (try simp at h_); omega, hk_.2.2.1⟩)) (by have := CC.out; first | omega | (simp; done) | (simp; omega))); obtain ⟨Az90, cz90, ez90⟩ := Kd.R_slice HO89.out; subst ez90; (try clear hb); (try clear ho0_); have hl91 : w2.heap.size < w11.heap.size := blk_lt HX14.out; have hx92 : w11.cell? ⟨w2.heap.size, 0, none⟩ = some (.int .i64 r7) := (blk_cell HX14.out 0).trans rfl; have hx93 : w11.cell? ⟨w2.heap.size, 1, none⟩ = some (.slice Az13 r8.length cz13) := (blk_cell HX14.out 1).trans rfl; have hl94 : w4.heap.size < w11.heap.size := blk_lt HX29.out; have hx95 : w11.cell? ⟨w4.heap.size, 0, none⟩ = some (.int .i64 r7) := (blk_cell HX29.out 0).trans rfl; have hx96 : w11.cell? ⟨w4.heap.size, 1, none⟩ = some (.slice Az25 r8.length cz25) := (blk_cell HX29.out 1).trans rfl) | ((with_reducible refine gate_callee (f := 26) rfl ?_); refine goesL_ (some 78) rfl rfl Try.func26 (by kernel_rfl) rfl #[.slice Az90 l0.length cz90, .int .i64 a1] rfl (by (try simp only [List.map_toArray, List.map_cons, List.map_nil]); first | done | rfl | (simp only [List.length_drop, List.length_take]; rfl)) ?_; (with_reducible refine (impl_WeightedFamily.calls k _ _ l0 a1 r7 r8 r9 _ ?side1 ?side2 A97.out).mono ?_); (case side1 => exact (Kd.R_reads' (n := l0.length) (A := Az90) (c := cz90) (by (with_reducible repeat (first | apply Kd.R_alloc | apply Kd.R_drewN | apply Kd.R_drew)); exact HO89.out)).2.2); (case side2 => exact (Kd.R_reads' (n := l0.length) (A := Az90) (c := cz90) HO89.out).2.1); rintro e w12 ⟨v100_, rfl, ho0_, hb⟩; refine ⟨_, rfl, ?_⟩; have n1_ := Aside0.mk (Kd.S_below (by (with_reducible repeat (first | apply Kd.S_alloc | apply Kd.S_drewN | apply Kd.S_drew)); exact HO12.out) hb); have n2_ := Aside0.mk (Kd.R_below (by (with_reducible repeat (first | apply Kd.R_alloc | apply Kd.R_drewN | apply Kd.R_drew)); exact HO17.out) hb); have n3_ := Aside0.mk (Kd.S_below (by (with_reducible repeat (first | apply Kd.S_alloc | apply Kd.S_drewN | apply Kd.S_drew)); exact HO24.out) hb); have n4_ := Aside0.mk (Kd.R_below (by (with_reducible repeat (first | apply Kd.R_alloc | apply Kd.R_drewN | apply Kd.R_drew)); exact HO89.out) hb); have n5_ := Aside0.mk (blk_below (g := w2.heap.size) (o := .cells #[.int .i64 r7, .slice Az13 r8.length cz13] 27 (0, 0)) (by (with_reducible repeat (first | refine blk_drewN ?_ _ | refine blk_drew ?_ | refine blk_alloc ?_ _)); exact HX14.out) hb); have n6_ := Aside0.mk (blk_below (g := w4.heap.size) (o := .cells #[.int .i64 r7, .slice Az25 r8.length cz25] 27 (0, 0)) (by (with_reducible repeat (first | refine blk_drewN ?_ _ | refine blk_drew ?_ | refine blk_alloc ?_ _)); exact HX29.out) hb); have n7_ := Aside0.mk (below_step (by repeat (first | (with_reducible first | exact HB.out | apply below_alloc | apply pw_below_drewN | apply below_drew1) | exact HB.out)) hb); have C98 : Aside0 (w11.heap.size ≤ w12.heap.size) := ⟨by have h_ := hb.size; (try simp at h_); omega⟩; have CCn_ := Aside0.mk (And.intro CC.out C98.out); clear CC; have CC := CCn_; clear CCn_; clear HO12; clear HO17; clear HO24; clear HO89; clear HX14; clear HX29; clear HB; clear hl91; clear hx92; clear hx93; clear hl94; clear hx95; clear hx96; have HO12 := n1_; clear n1_; have HO17 := n2_; clear n2_; have HO24 := n3_; clear n3_; have HO89 := n4_; clear n4_; have HX14 := n5_; clear n5_; have HX29 := n6_; clear n6_; have HB := n7_; clear n7_; have HO99 := Aside0.mk (Kd.S_lower (base' := w.heap.size) (Kd.S_mono (Kd.S_bound ho0_) (ok' := fun k_ => w11.heap.size ≤ k_ ∧ k_ < w12.heap.size) (fun k_ hk_ => ⟨by have h_ := hk_.2.1; (try simp at h_); omega, hk_.2.2.1⟩)) (by have := CC.out; first | omega | (simp; done) | (simp; omega))); obtain ⟨Az100, cz100, ez100⟩ := Kd.S_slice HO99.out; subst ez100; (try clear hb); (try clear ho0_); have hl101 : w2.heap.size < w12.heap.size := blk_lt HX14.out; have hx102 : w12.cell? ⟨w2.heap.size, 0, none⟩ = some (.int .i64 r7) := (blk_cell HX14.out 0).trans rfl; have hx103 : w12.cell? ⟨w2.heap.size, 1, none⟩ = some (.slice Az13 r8.length cz13) := (blk_cell HX14.out 1).trans rfl; have hl104 : w4.heap.size < w12.heap.size := blk_lt HX29.out; have hx105 : w12.cell? ⟨w4.heap.size, 0, none⟩ = some (.int .i64 r7) := (blk_cell HX29.out 0).trans rfl; have hx106 : w12.cell? ⟨w4.heap.size, 1, none⟩ = some (.slice Az25 r8.length cz25) := (blk_cell HX29.out 1).trans rfl) | ((with_reducible refine gate_callee (f := 13) rfl ?_); refine goesL_ (some 83) rfl rfl Try.func13 (by kernel_rfl) rfl #[.agg #[.int .i64 r7, .slice Az100 r8.length cz100], .agg #[.int .i64 r7, .slice Az13 r8.length cz13]] rfl (by (try simp only [List.map_toArray, List.map_cons, List.map_nil]); first | done | rfl | (simp only [List.length_drop, List.length_take]; rfl)) ?_; (with_reducible refine (laws_eqFamily.calls k r7 _ _ r8 r7 _ _ r8 true _ ?side1 ?side2 ?side3 ?side4 A108.out).mono ?_); (case side1 => exact (Kd.S_reads' (n := r8.length) (A := Az100) (c := cz100) (by (with_reducible repeat (first | apply Kd.S_alloc | apply Kd.S_drewN | apply Kd.S_drew)); exact HO99.out)).2.2); (case side2 => exact (Kd.S_reads' (n := r8.length) (A := Az100) (c := cz100) HO99.out).2.1); (case side3 => exact (Kd.S_reads' (n := r8.length) (A := Az13) (c := cz13) (by (with_reducible repeat (first | apply Kd.S_alloc | apply Kd.S_drewN | apply Kd.S_drew)); exact HO12.out)).2.2); (case side4 => exact (Kd.S_reads' (n := r8.length) (A := Az13) (c := cz13) HO12.out).2.1); rintro e w13 ⟨rfl, hb⟩; refine ⟨_, rfl, ?_⟩; have n1_ := Aside0.mk (Kd.S_below (by (with_reducible repeat (first | apply Kd.S_alloc | apply Kd.S_drewN | apply Kd.S_drew)); exact HO12.out) hb); have n2_ := Aside0.mk (Kd.R_below (by (with_reducible repeat (first | apply Kd.R_alloc | apply Kd.R_drewN | apply Kd.R_drew)); exact HO17.out) hb); have n3_ := Aside0.mk (Kd.S_below (by (with_reducible repeat (first | apply Kd.S_alloc | apply Kd.S_drewN | apply Kd.S_drew)); exact HO24.out) hb); have n4_ := Aside0.mk (Kd.S_below (by (with_reducible repeat (first | apply Kd.S_alloc | apply Kd.S_drewN | apply Kd.S_drew)); exact HO99.out) hb); have n5_ := Aside0.mk (blk_below (g := w2.heap.size) (o := .cells #[.int .i64 r7, .slice Az13 r8.length cz13] 27 (0, 0)) (by (with_reducible repeat (first | refine blk_drewN ?_ _ | refine blk_drew ?_ | refine blk_alloc ?_ _)); exact HX14.out) hb); have n6_ := Aside0.mk (blk_below (g := w4.heap.size) (o := .cells #[.int .i64 r7, .slice Az25 r8.length cz25] 27 (0, 0)) (by (with_reducible repeat (first | refine blk_drewN ?_ _ | refine blk_drew ?_ | refine blk_alloc ?_ _)); exact HX29.out) hb); have n7_ := Aside0.mk (blk_below (g := w12.heap.size) (o := .cells #[.int .i64 r7, .slice Az100 r8.length cz100] 27 (0, 0)) (by repeat (first | exact blk_new_at (by simp) | (with_reducible refine blk_drewN ?_ _) | (with_reducible refine blk_drew ?_) | (with_reducible refine blk_alloc ?_ _))) hb); have n8_ := Aside0.mk (below_step (by repeat (first | (with_reducible first | exact HB.out | apply below_alloc | apply pw_below_drewN | apply below_drew1) | exact HB.out)) hb); have C109 : Aside0 (w12.heap.size + 1 ≤ w13.heap.size) := ⟨by have h_ := hb.size; (try simp at h_); omega⟩; have CCn_ := Aside0.mk (And.intro CC.out C109.out); clear CC; have CC := CCn_; clear CCn_; clear HO12; clear HO17; clear HO24; clear HO99; clear HX14; clear HX29; clear HB; clear hl101; clear hx102; clear hx103; clear hl104; clear hx105; clear hx106; have HO12 := n1_; clear n1_; have HO17 := n2_; clear n2_; have HO24 := n3_; clear n3_; have HO99 := n4_; clear n4_; have HX14 := n5_; clear n5_; have HX29 := n6_; clear n6_; have HX107 := n7_; clear n7_; have HB := n8_; clear n8_; (try clear hb); have hl110 : w2.heap.size < w13.heap.size := blk_lt HX14.out; have hx111 : w13.cell? ⟨w2.heap.size, 0, none⟩ = some (.int .i64 r7) := (blk_cell HX14.out 0).trans rfl; have hx112 : w13.cell? ⟨w2.heap.size, 1, none⟩ = some (.slice Az13 r8.length cz13) := (blk_cell HX14.out 1).trans rfl; have hl113 : w4.heap.size < w13.heap.size := blk_lt HX29.out; have hx114 : w13.cell? ⟨w4.heap.size, 0, none⟩ = some (.int .i64 r7) := (blk_cell HX29.out 0).trans rfl; have hx115 : w13.cell? ⟨w4.heap.size, 1, none⟩ = some (.slice Az25 r8.length cz25) := (blk_cell HX29.out 1).trans rfl; have hl116 : w12.heap.size < w13.heap.size := blk_lt HX107.out; have hx117 : w13.cell? ⟨w12.heap.size, 0, none⟩ = some (.int .i64 r7) := (blk_cell HX107.out 0).trans rfl; have hx118 : w13.cell? ⟨w12.heap.size, 1, none⟩ = some (.slice Az100 r8.length cz100) := (blk_cell HX107.out 1).trans rfl) | ((with_reducible refine gate_callee (f := 27) rfl ?_); refine goesL_ (some 92) rfl rfl Try.func27 (by kernel_rfl) rfl #[.agg #[.int .i64 r7, .slice Az25 r8.length cz25], .int .i64 1] rfl (by (try simp only [List.map_toArray, List.map_cons, List.map_nil]); first | done | rfl | (simp only [List.length_drop, List.length_take]; rfl)) ?_; (with_reducible refine (calls_as ?eq_ (laws_heldFamily.calls k r7 Az25 cz25 ys69 1 m68 _ ?side1 ?side2 A119.out)).mono ?_); (case eq_ => rw [show ys69.length = r8.length from (Kd.S_reads' HO24.out).1.symm]); (case side1 => exact (Kd.S_reads' (n := r8.length) (A := Az25) (c := cz25) (by (with_reducible repeat (first | apply Kd.S_alloc | apply Kd.S_drewN | apply Kd.S_drew)); exact HO24.out)).2.2); (case side2 => exact Nat.le_trans (Nat.le_of_eq (Kd.S_reads' HO24.out).1.symm) (Kd.S_reads' HO24.out).2.1); rintro e w14 ⟨rfl, hb⟩; refine ⟨_, rfl, ?_⟩; have n1_ := Aside0.mk (Kd.S_below (by (with_reducible repeat (first | apply Kd.S_alloc | apply Kd.S_drewN | apply Kd.S_drew)); exact HO12.out) hb); have n2_ := Aside0.mk (Kd.R_below (by (with_reducible repeat (first | apply Kd.R_alloc | apply Kd.R_drewN | apply Kd.R_drew)); exact HO17.out) hb); have n3_ := Aside0.mk (Kd.S_below (by (with_reducible repeat (first | apply Kd.S_alloc | apply Kd.S_drewN | apply Kd.S_drew)); exact HO24.out) hb); have n4_ := Aside0.mk (Kd.S_below (by (with_reducible repeat (first | apply Kd.S_alloc | apply Kd.S_drewN | apply Kd.S_drew)); exact HO99.out) hb); have n5_ := Aside0.mk (blk_below (g := w2.heap.size) (o := .cells #[.int .i64 r7, .slice Az13 r8.length cz13] 27 (0, 0)) (by (with_reducible repeat (first | refine blk_drewN ?_ _ | refine blk_drew ?_ | refine blk_alloc ?_ _)); exact HX14.out) hb); have n6_ := Aside0.mk (blk_below (g := w4.heap.size) (o := .cells #[.int .i64 r7, .slice Az25 r8.length cz25] 27 (0, 0)) (by (with_reducible repeat (first | refine blk_drewN ?_ _ | refine blk_drew ?_ | refine blk_alloc ?_ _)); exact HX29.out) hb); have n7_ := Aside0.mk (blk_below (g := w12.heap.size) (o := .cells #[.int .i64 r7, .slice Az100 r8.length cz100] 27 (0, 0)) (by (with_reducible repeat (first | refine blk_drewN ?_ _ | refine blk_drew ?_ | refine blk_alloc ?_ _)); exact HX107.out) hb); have n8_ := Aside0.mk (below_step (by repeat (first | (with_reducible first | exact HB.out | apply below_alloc | apply pw_below_drewN | apply below_drew1) | exact HB.out)) hb); have C120 : Aside0 (w13.heap.size ≤ w14.heap.size) := ⟨by have h_ := hb.size; (try simp at h_); omega⟩; have CCn_ := Aside0.mk (And.intro CC.out C120.out); clear CC; have CC := CCn_; clear CCn_; clear HO12; clear HO17; clear HO24; clear HO99; clear HX14; clear HX29; clear HX107; clear HB; clear hl110; clear hx111; clear hx112; clear hl113; clear hx114; clear hx115; clear hl116; clear hx117; clear hx118; have HO12 := n1_; clear n1_; have HO17 := n2_; clear n2_; have HO24 := n3_; clear n3_; have HO99 := n4_; clear n4_; have HX14 := n5_; clear n5_; have HX29 := n6_; clear n6_; have HX107 := n7_; clear n7_; have HB := n8_; clear n8_; (try clear hb); have hl121 : w2.heap.size < w14.heap.size := blk_lt HX14.out; have hx122 : w14.cell? ⟨w2.heap.size, 0, none⟩ = some (.int .i64 r7) := (blk_cell HX14.out 0).trans rfl; have hx123 : w14.cell? ⟨w2.heap.size, 1, none⟩ = some (.slice Az13 r8.length cz13) := (blk_cell HX14.out 1).trans rfl; have hl124 : w4.heap.size < w14.heap.size := blk_lt HX29.out; have hx125 : w14.cell? ⟨w4.heap.size, 0, none⟩ = some (.int .i64 r7) := (blk_cell HX29.out 0).trans rfl; have hx126 : w14.cell? ⟨w4.heap.size, 1, none⟩ = some (.slice Az25 r8.length cz25) := (blk_cell HX29.out 1).trans rfl; have hl127 : w12.heap.size < w14.heap.size := blk_lt HX107.out; have hx128 : w14.cell? ⟨w12.heap.size, 0, none⟩ = some (.int .i64 r7) := (blk_cell HX107.out 0).trans rfl; have hx129 : w14.cell? ⟨w12.heap.size, 1, none⟩ = some (.slice Az100 r8.length cz100) := (blk_cell HX107.out 1).trans rfl))
  go_ret
  exact ⟨rfl, by repeat (first | (with_reducible first | exact HB.out | apply below_alloc | apply pw_below_drewN | apply below_drew1) | exact HB.out)⟩

end Go.Proofs.Ytenmlpngnpjpjaa.P

namespace Go.Proofs.Ytenmlpngnpjpjaa.P
open Go.RowKit Go.Proofs.YtenmlpngnpjpjaaW.PrintWords Go.Proofs.YtenmlpngnpjpjaaW.PrintLast Go.Proofs.YtenmlpngnpjpjaaW.PrintMore
attribute [local go_sem] max2_int min2_int max_two min_two max_three min_three max_four min_four
set_option linter.unusedVariables false
set_option linter.unusedSimpArgs false

def laws_FnExactWeightedFamily.Way0 (l0 : List Int) (a1 : Int) : Prop := ∃ k : Nat, (decide (1048576 < (l0.length : Int)) = true) ∧ (decide (1048576 < l0.length) = true)
def laws_FnExactWeightedFamily.Way1 (l0 : List Int) (a1 : Int) : Prop := ∃ k : Nat, ∃ (r7 : Int) (r8 : List (List Int)) (r9 : Int) (m49 : Int) (ys50 : List Int) (m68 : Int) (ys69 : List (List Int)), (decide (1048576 < (l0.length : Int)) = false) ∧ (decide (1048576 < l0.length) = false) ∧ (laws_toInt64S.f k l0 = some l0) ∧ (spec_WeightedFamily.f k l0 a1 = some (r7, r8, r9)) ∧ (laws_toInt64S.f k l0 = some l0) ∧ (impl_WeightedFamily.f k l0 a1 = some (r7, r8, r9)) ∧ (laws_eqFamily.f k r7 r8 r7 r8 = some true) ∧ (laws_toInt64S.f k l0 = some l0) ∧ (laws_eqInt64S.f k l0 l0 = some true) ∧ (laws_markInt64S.f k l0 1 = some (m49, ys50)) ∧ (decide (m49 < 0) = false) ∧ (laws_eqFamily.f k r7 r8 r7 r8 = some true) ∧ (laws_markFamily.f k r7 r8 1 = some (m68, ys69)) ∧ (laws_heldFamily.f k r7 ys69 1 = some m68) ∧ (decide (m68 < 0) = false) ∧ (laws_toInt64S.f k l0 = some l0) ∧ (impl_WeightedFamily.f k l0 a1 = some (r7, r8, r9)) ∧ (laws_eqFamily.f k r7 r8 r7 r8 = some true) ∧ (laws_heldFamily.f k r7 ys69 1 = some m68) ∧ (decide (m68 < 0) = false)
def laws_FnExactWeightedFamily.Pure : Prop := ∀ (l0 : List Int) (a1 : Int), (l0.length ≤ 9223372036854775807 ∧ ∀ y7_ ∈ l0, (Lit.int .i64 y7_).wf = true) → ((Lit.int .i64 a1).wf = true) → laws_FnExactWeightedFamily.Way0 l0 a1 ∨ laws_FnExactWeightedFamily.Way1 l0 a1
theorem laws_FnExactWeightedFamily.walk (P : laws_FnExactWeightedFamily.Pure) (l0 : List Int) (a1 : Int) (A0 : Option Addr) (c0 : Nat) (w : World) (hr0 : Kd.C (Kd.int .i64) w A0 l0.length l0) (hc0 : l0.length ≤ c0) (wf0 : (l0.length ≤ 9223372036854775807 ∧ ∀ y7_ ∈ l0, (Lit.int .i64 y7_).wf = true)) (wf1 : ((Lit.int .i64 a1).wf = true)) :
    Calls Try.prog 7 #[.slice A0 l0.length c0, .int .i64 a1] w fun e w' => e = .returned (.bool true) ∧ Below w.heap.size w w' := by
  rcases P l0 a1 wf0 wf1 with h | h
  · obtain ⟨k, t1, t2⟩ := h
    exact laws_FnExactWeightedFamily.way0 k _ _ l0 a1  w hr0 hc0 t1 t2
  · obtain ⟨k, r7, r8, r9, m49, ys50, m68, ys69, t1, t2, A3, A10, A15, A22, A30, A38, A48, A51, t59, A60, A70, A78, t86, A87, A97, A108, A119, t130⟩ := h
    exact laws_FnExactWeightedFamily.way1 k _ _ l0 a1 r7 r8 r9 m49 ys50 m68 ys69 w hr0 hc0 t1 t2 A3 A10 A15 A22 A30 A38 A48 A51 t59 A60 A70 A78 t86 A87 A97 A108 A119 t130

end Go.Proofs.Ytenmlpngnpjpjaa.P

namespace Go.Proofs.Ytenmlpngnpjpjaa.P
open Go.RowKit Go.Proofs.YtenmlpngnpjpjaaW.PrintWords Go.Proofs.YtenmlpngnpjpjaaW.PrintLast Go.Proofs.YtenmlpngnpjpjaaW.PrintMore
attribute [local go_sem] max2_int min2_int max_two min_two max_three min_three max_four min_four
set_option linter.unusedVariables false
set_option linter.unusedSimpArgs false

section
variable {H : Type} {enc : TypeId × Value → H} {P : Program} {w : World} {base : Nat} {held : Bool} {α : Type}
/-- Whatever reads as a datum of type t (at this depth) is a value of kind d. -/
def OpensAt (enc : TypeId × Value → H) (P : Program) (w : World) (base : Nat) (held : Bool) (n : Nat) (t : TypeId) (d : Kd α) (wf : α → Prop) : Prop :=
  ∀ cs x, DataW.trod enc P w base (fun _ => true) held n t cs = some x → ∃ a, d.K w a cs ∧ wf a
theorem opens_int (n : Nat) {t : TypeId} {k : IntKind} (ht : P.underlying t = some (.int k)) : OpensAt enc P w base held n t (Kd.int k) (fun a => (Lit.int k a).wf = true) := fun cs x h => by
  obtain ⟨a, rfl, _, hw⟩ := DataW.trod_int ht h
  exact ⟨a, rfl, hw⟩
theorem list_upto {Q : Nat → α → Prop} : ∀ n, (∀ i, i < n → ∃ y, Q i y) → ∃ xs : List α, xs.length = n ∧ ∀ (i : Nat) (y : α), xs[i]? = some y → Q i y
  | 0, _ => ⟨[], rfl, fun i y h => by simp at h⟩
  | n + 1, h => by
    obtain ⟨xs, hl, hx⟩ := list_upto n (fun i hi => h i (by omega))
    obtain ⟨y, hy⟩ := h n (by omega)
    refine ⟨xs ++ [y], by simp [hl], fun i z hz => ?_⟩
    by_cases e : i < xs.length
    · rw [List.getElem?_append_left e] at hz
      exact hx i z hz
    · rw [List.getElem?_append_right (by omega)] at hz
      have : i - xs.length = 0 := by
        have := (List.getElem?_eq_some_iff.1 hz).1
        simp at this
        omega
      rw [this] at hz
      obtain rfl : y = z := by simpa using hz
      obtain rfl : i = n := by omega
      exact hy
theorem opens_slice (n : Nat) {t e : TypeId} {d : Kd α} {wf : α → Prop} (ht : P.underlying t = some (.slice e)) (hc : P.cellsOf e = d.sz) (he : OpensAt enc P w base held n e d wf) :
    OpensAt enc P w base held (n + 1) t (Kd.slice e d) (fun xs => xs.length ≤ 9223372036854775807 ∧ ∀ x ∈ xs, wf x) := fun cs x h => by
  rcases DataW.trod_slice ht h with ⟨rfl, _⟩ | ⟨a, len, cap, elems, rest, m, hn, rfl, _, _, hl, hm, hlen, hel, _, _⟩
  · exact ⟨[], ⟨none, 0, rfl, Nat.le_refl _, ⟨rfl, by simp, fun h => absurd h (by simp)⟩⟩, by simp⟩
  · obtain rfl : n = m := by omega
    obtain ⟨xs, hxl, hx⟩ := list_upto (Q := fun i y => (∃ c : List Value, c.length = d.sz ∧ d.K w y c ∧ ∀ j u, c[j]? = some u → w.cell? (a.add (i * d.sz + j)) = some u) ∧ wf y) len (fun i hi => by
      have h1 := hel i hi
      rw [List.getElem?_eq_getElem (by omega)] at h1
      obtain ⟨c, hc1, hc2⟩ := Option.bind_eq_some_iff.1 h1
      obtain ⟨y, hy, hw⟩ := he c _ hc2
      obtain ⟨_, hcl, hcc⟩ := World.cells?_some hc1
      refine ⟨y, ⟨c, by rw [hcl, hc], hy, fun j u hu => ?_⟩, hw⟩
      have hj : j < P.cellsOf e := by rw [← hcl]; exact (List.getElem?_eq_some_iff.1 hu).1
      have h2 := hcc j hj
      rw [hu, hc] at h2
      rw [← h2, Addr.add_add])
    subst hxl
    unfold maxLen at hm
    refine ⟨xs, ⟨some a, cap, rfl, hl, ⟨rfl, by omega, fun _ => ⟨a, rfl, fun j p hj => (hx j p hj).1⟩⟩⟩, by omega, fun y hy => ?_⟩
    obtain ⟨i, hi⟩ := List.mem_iff_getElem?.1 hy
    exact (hx i y hi).2
/-- At any depth. -/
theorem OpensAt.any {t : TypeId} {d : Kd α} {wf : α → Prop} (h : ∀ n, OpensAt enc P w base held n t d wf) {v : Value} {y : DataW H} {p : List MemPlace} (hv : DataW.Trod enc P w base (fun _ => true) held t v y p) : ∃ a, d.K w a v.cells.toList ∧ wf a := by
  obtain ⟨fuel, hf⟩ := hv
  exact h fuel _ _ hf
theorem opens_slice_any {t e : TypeId} {d : Kd α} {wf : α → Prop} (ht : P.underlying t = some (.slice e)) (hc : P.cellsOf e = d.sz) (he : ∀ n, OpensAt enc P w base held n e d wf) : ∀ n, OpensAt enc P w base held n t (Kd.slice e d) (fun xs => xs.length ≤ 9223372036854775807 ∧ ∀ x ∈ xs, wf x)
  | 0 => fun cs x h => by simp [DataW.trod] at h
  | n + 1 => opens_slice n ht hc (he n)
end

end Go.Proofs.Ytenmlpngnpjpjaa.P

namespace Go.Proofs.Ytenmlpngnpjpjaa.P
open Go.RowKit Go.Proofs.YtenmlpngnpjpjaaW.PrintWords Go.Proofs.YtenmlpngnpjpjaaW.PrintLast Go.Proofs.YtenmlpngnpjpjaaW.PrintMore
attribute [local go_sem] max2_int min2_int max_two min_two max_three min_three max_four min_four
set_option linter.unusedVariables false
set_option linter.unusedSimpArgs false

/-! ### spec_l00Same: function 31 -/
end Go.Proofs.Ytenmlpngnpjpjaa.P

namespace Go.Proofs.Ytenmlpngnpjpjaa.P
open Go.RowKit Go.Proofs.YtenmlpngnpjpjaaW.PrintWords Go.Proofs.YtenmlpngnpjpjaaW.PrintLast Go.Proofs.YtenmlpngnpjpjaaW.PrintMore
attribute [local go_sem] max2_int min2_int max_two min_two max_three min_three max_four min_four
set_option linter.unusedVariables false
set_option linter.unusedSimpArgs false

/-! ### slices_Equal_int64_int64: function 34 -/
end Go.Proofs.Ytenmlpngnpjpjaa.P

namespace Go.Proofs.Ytenmlpngnpjpjaa.P
open Go.RowKit Go.Proofs.YtenmlpngnpjpjaaW.PrintWords Go.Proofs.YtenmlpngnpjpjaaW.PrintLast Go.Proofs.YtenmlpngnpjpjaaW.PrintMore
attribute [local go_sem] max2_int min2_int max_two min_two max_three min_three max_four min_four
set_option linter.unusedVariables false
set_option linter.unusedSimpArgs false

/-! ### slices_EqualFunc_int64_int64_int64_int64: function 33 (by hand) -/
end Go.Proofs.Ytenmlpngnpjpjaa.P

namespace Go.Proofs.Ytenmlpngnpjpjaa.P
open Go.RowKit Go.Proofs.YtenmlpngnpjpjaaW.PrintWords Go.Proofs.YtenmlpngnpjpjaaW.PrintLast Go.Proofs.YtenmlpngnpjpjaaW.PrintMore
attribute [local go_sem] max2_int min2_int max_two min_two max_three min_three max_four min_four
set_option linter.unusedVariables false
set_option linter.unusedSimpArgs false

/-! ### laws_szInt64S: function 57 -/
end Go.Proofs.Ytenmlpngnpjpjaa.P

namespace Go.Proofs.Ytenmlpngnpjpjaa.P
open Go.RowKit Go.Proofs.YtenmlpngnpjpjaaW.PrintWords Go.Proofs.YtenmlpngnpjpjaaW.PrintLast Go.Proofs.YtenmlpngnpjpjaaW.PrintMore
attribute [local go_sem] max2_int min2_int max_two min_two max_three min_three max_four min_four
set_option linter.unusedVariables false
set_option linter.unusedSimpArgs false

/-! ### laws_szInt64SS: function 30 -/
end Go.Proofs.Ytenmlpngnpjpjaa.P

namespace Go.Proofs.Ytenmlpngnpjpjaa.P
open Go.RowKit Go.Proofs.YtenmlpngnpjpjaaW.PrintWords Go.Proofs.YtenmlpngnpjpjaaW.PrintLast Go.Proofs.YtenmlpngnpjpjaaW.PrintMore
attribute [local go_sem] max2_int min2_int max_two min_two max_three min_three max_four min_four
set_option linter.unusedVariables false
set_option linter.unusedSimpArgs false

/-! ### laws_toInt64SS: function 32 -/
end Go.Proofs.Ytenmlpngnpjpjaa.P

namespace Go.Proofs.Ytenmlpngnpjpjaa.P
open Go.RowKit Go.Proofs.YtenmlpngnpjpjaaW.PrintWords Go.Proofs.YtenmlpngnpjpjaaW.PrintLast Go.Proofs.YtenmlpngnpjpjaaW.PrintMore
attribute [local go_sem] max2_int min2_int max_two min_two max_three min_three max_four min_four
set_option linter.unusedVariables false
set_option linter.unusedSimpArgs false

theorem rdL_nat (xs : List (List Int)) (i : Nat) (h : i < xs.length) : rd_L1 xs (i : Int) = xs[i] := by
  simp [rd_L1, h]
theorem sum_take_le (l : List Nat) (i : Nat) : (l.take i).sum ≤ l.sum := by
  conv => rhs; rw [← List.take_append_drop i l, List.sum_append]
  omega
theorem sum_take_succ (l : List Nat) (i : Nat) (h : i < l.length) : (l.take (i + 1)).sum = (l.take i).sum + l[i] := by
  rw [List.take_succ_eq_append_getElem h, List.sum_append]; simp
theorem eqInt64SS_ev (a b : List (List Int)) (hl : a.length ≤ 1048576) (hr : ∀ r ∈ a, r.length ≤ 1048576) : Ev (fun k => laws_eqInt64SS.f k a b) (decide (a = b)) := by
  unfold laws_eqInt64SS.f
  by_cases h : a.length = b.length
  · simp only [if_pos (show (a.length : Int) = (b.length : Int) by omega)]
    have key : ∀ (d i : Nat), i + d = a.length → Ev (fun k => laws_eqInt64SS.l0 k a b (i : Int)) (decide (a.drop i = b.drop i)) := by
      intro d
      induction d with
      | zero =>
        intro i hi
        refine Ev.step (f := fun _ => some true) (fun k => ?_) ?_
        · simp only [laws_eqInt64SS.l0]
          rw [if_neg (by omega)]
        · rw [List.drop_eq_nil_of_le (by omega), List.drop_eq_nil_of_le (by omega), decide_eq_true rfl]
          exact Ev.now _
      | succ d ih =>
        intro i hi
        have h1 : i < a.length := by omega
        have h2 : i < b.length := by omega
        have ed : (a.drop i = b.drop i) ↔ (a[i] = b[i] ∧ a.drop (i + 1) = b.drop (i + 1)) := by
          rw [List.drop_eq_getElem_cons h1, List.drop_eq_getElem_cons h2, List.cons.injEq]
        refine Ev.step (f := fun k => (laws_eqInt64S.f k a[i] b[i]).bind fun t => if t = true then laws_eqInt64SS.l0 k a b ((i + 1 : Nat) : Int) else some false) (fun k => ?_) ?_
        · simp only [laws_eqInt64SS.l0]
          rw [if_pos (by omega), if_pos (by omega), if_pos (by omega), rdL_nat a i h1, rdL_nat b i h2, wr (by omega) (by omega)]
          rfl
        · refine Ev.bind (eqInt64S_ev _ _ (hr _ (List.getElem_mem h1))) ?_
          by_cases e : a[i] = b[i]
          · rw [decide_eq_true e, show decide (a.drop i = b.drop i) = decide (a.drop (i + 1) = b.drop (i + 1)) from by simp only [ed, e, true_and]]
            exact ih (i + 1) (by omega)
          · rw [decide_eq_false e, decide_eq_false (by rw [ed]; simp [e])]
            exact Ev.now _
    have := key a.length 0 (by omega)
    rw [List.drop_zero, List.drop_zero] at this
    exact this
  · simp only [if_neg (show ¬ (a.length : Int) = (b.length : Int) by omega)]
    rw [decide_eq_false (by intro e; exact h (by rw [e]))]
    exact Ev.now _
theorem eqInt64SS_same (a : List (List Int)) (hl : a.length ≤ 1048576) (hr : ∀ r ∈ a, r.length ≤ 1048576) : Ev (fun k => laws_eqInt64SS.f k a a) true := by
  have := eqInt64SS_ev a a hl hr
  rwa [decide_eq_true rfl] at this

end Go.Proofs.Ytenmlpngnpjpjaa.P

namespace Go.Proofs.Ytenmlpngnpjpjaa.P
open Go.RowKit Go.Proofs.YtenmlpngnpjpjaaW.PrintWords Go.Proofs.YtenmlpngnpjpjaaW.PrintLast Go.Proofs.YtenmlpngnpjpjaaW.PrintMore
attribute [local go_sem] max2_int min2_int max_two min_two max_three min_three max_four min_four
set_option linter.unusedVariables false
set_option linter.unusedSimpArgs false

/-- What holds from some number of rounds on. -/
def From (P : Nat → Prop) : Prop := ∃ K, ∀ k, K ≤ k → P k
theorem From.and {P Q : Nat → Prop} (hp : From P) (hq : From Q) : From fun k => P k ∧ Q k := by
  obtain ⟨K, hK⟩ := hp
  obtain ⟨L, hL⟩ := hq
  exact ⟨max K L, fun k h => ⟨hK k (by omega), hL k (by omega)⟩⟩
theorem From.now {P : Nat → Prop} (h : From P) : ∃ k, P k := by
  obtain ⟨K, hK⟩ := h
  exact ⟨K, hK K (Nat.le_refl _)⟩
end Go.Proofs.Ytenmlpngnpjpjaa.P

namespace Go.Proofs.Ytenmlpngnpjpjaa.P
open Go.RowKit Go.Proofs.YtenmlpngnpjpjaaW.PrintWords Go.Proofs.YtenmlpngnpjpjaaW.PrintLast Go.Proofs.YtenmlpngnpjpjaaW.PrintMore
attribute [local go_sem] max2_int min2_int max_two min_two max_three min_three max_four min_four
set_option linter.unusedVariables false
set_option linter.unusedSimpArgs false

/-- The numbers from a on, n of them: what a mark leaves. -/
def upFrom (a : Int) (n : Nat) : List Int := (List.range n).map fun i : Nat => a + (i : Int)
theorem upFrom_length (a : Int) (n : Nat) : (upFrom a n).length = n := by simp [upFrom]
theorem upFrom_succ (a : Int) (n : Nat) : upFrom a (n + 1) = upFrom a n ++ [a + (n : Int)] := by simp [upFrom, List.range_succ]
/-- A loop that writes one place after another. -/
theorem markInt64S_ev (l : List Int) (a : Int) (ha : 0 ≤ a ∧ a ≤ 2147483648) (hl : l.length ≤ 4611686018427387904) : Ev (fun k => laws_markInt64S.f k l a) (a + (l.length : Int), upFrom a l.length) := by
  unfold laws_markInt64S.f
  have key : ∀ d i : Nat, i + d = l.length → Ev (fun k => laws_markInt64S.l0 k (upFrom a i ++ l.drop i) (a + (i : Int)) (i : Int)) (a + (l.length : Int), upFrom a l.length) := by
    intro d
    induction d with
    | zero =>
      intro i hi
      obtain rfl : i = l.length := by omega
      refine Ev.step (f := fun _ => some (a + (l.length : Int), upFrom a l.length)) (fun k => ?_) (Ev.now _)
      simp only [laws_markInt64S.l0]
      rw [if_neg (by simp [upFrom_length]), List.drop_length, List.append_nil]
    | succ d ih =>
      intro i hi
      have hlt : i < l.length := by omega
      refine Ev.step (fun k => ?_) (ih (i + 1) (by omega))
      simp only [laws_markInt64S.l0]
      rw [if_pos (by simp [upFrom_length]; omega), if_pos (by omega), wr (by omega) (by omega), wr (by omega) (by omega), Int.toNat_natCast, List.set_append_right _ _ (by rw [upFrom_length]; exact Nat.le_refl _), upFrom_length, Nat.sub_self, List.drop_eq_getElem_cons hlt, List.set_cons_zero, upFrom_succ, List.append_assoc]
      rw [show a + (i : Int) + 1 = a + ((i + 1 : Nat) : Int) by omega]
      rfl
  have := key l.length 0 (by omega)
  simpa [upFrom] using this
theorem heldInt64S_ev (a : Int) (n : Nat) (ha : 0 ≤ a ∧ a ≤ 2147483648) (hl : n ≤ 4611686018427387904) : Ev (fun k => laws_heldInt64S.f k (upFrom a n) a) (a + (n : Int)) := by
  unfold laws_heldInt64S.f
  have key : ∀ d i : Nat, i + d = n → Ev (fun k => laws_heldInt64S.l0 k (upFrom a n) (a + (i : Int)) (i : Int)) (a + (n : Int)) := by
    intro d
    induction d with
    | zero =>
      intro i hi
      obtain rfl : i = n := by omega
      refine Ev.step (f := fun _ => some (a + (i : Int))) (fun k => ?_) (Ev.now _)
      simp only [laws_heldInt64S.l0]
      rw [if_neg (by simp [upFrom_length])]
    | succ d ih =>
      intro i hi
      have hlt : i < (upFrom a n).length := by rw [upFrom_length]; omega
      refine Ev.step (fun k => ?_) (ih (i + 1) (by omega))
      simp only [laws_heldInt64S.l0]
      rw [if_pos (by simp [upFrom_length]; omega), if_pos (by omega), rd_nat _ i hlt, if_pos (by simp [upFrom]), wr (by omega) (by omega), wr (by omega) (by omega)]
      rw [show a + (i : Int) + 1 = a + ((i + 1 : Nat) : Int) by omega]
      rfl
  have := key n 0 (by omega)
  simpa using this
/-- How many values the first i rows hold. -/
def preLen (rows : List (List Int)) (i : Nat) : Nat := ((rows.map List.length).take i).sum
def allLen (rows : List (List Int)) : Nat := (rows.map List.length).sum
def upRow (a : Int) (rows : List (List Int)) (i : Nat) : List Int := upFrom (a + (preLen rows i : Int)) ((rows.map List.length).getD i 0)
/-- Rows as a mark leaves them. -/
def upRows (a : Int) (rows : List (List Int)) : List (List Int) := (List.range rows.length).map (upRow a rows)
theorem preLen_succ (rows : List (List Int)) (i : Nat) (h : i < rows.length) : preLen rows (i + 1) = preLen rows i + rows[i].length := by
  have := sum_take_succ (rows.map List.length) i (by simpa using h)
  rwa [List.getElem_map] at this
theorem preLen_le (rows : List (List Int)) (i : Nat) : preLen rows i ≤ allLen rows := sum_take_le _ _
theorem preLen_end (rows : List (List Int)) : preLen rows rows.length = allLen rows := by
  unfold preLen allLen
  rw [List.take_of_length_le (by simp)]
theorem upRows_length (a : Int) (rows : List (List Int)) : (upRows a rows).length = rows.length := by simp [upRows]
theorem upRow_eq (a : Int) (rows : List (List Int)) (i : Nat) (h : i < rows.length) : upRow a rows i = upFrom (a + (preLen rows i : Int)) rows[i].length := by
  unfold upRow
  rw [List.getD_eq_getElem?_getD, List.getElem?_map, List.getElem?_eq_getElem h]
  rfl
theorem markInt64SS_ev (rows : List (List Int)) (a : Int) (ha : 0 ≤ a ∧ a ≤ 1073741824) (hl : rows.length ≤ 1073741824) (hs : allLen rows ≤ 1073741824) : Ev (fun k => laws_markInt64SS.f k rows a) (a + (allLen rows : Int), upRows a rows) := by
  unfold laws_markInt64SS.f
  have key : ∀ d i : Nat, i + d = rows.length → Ev (fun k => laws_markInt64SS.l0 k ((List.range i).map (upRow a rows) ++ rows.drop i) (a + (preLen rows i : Int)) (i : Int)) (a + (allLen rows : Int), upRows a rows) := by
    intro d
    induction d with
    | zero =>
      intro i hi
      obtain rfl : i = rows.length := by omega
      refine Ev.step (f := fun _ => some (a + (allLen rows : Int), upRows a rows)) (fun k => ?_) (Ev.now _)
      simp only [laws_markInt64SS.l0]
      rw [if_neg (by simp), List.drop_length, List.append_nil, preLen_end]
      rfl
    | succ d ih =>
      intro i hi
      have hlt : i < rows.length := by omega
      have hp := preLen_succ rows i hlt
      have hp2 := preLen_le rows (i + 1)
      have hrow : rd_L1 ((List.range i).map (upRow a rows) ++ rows.drop i) (i : Int) = rows[i] := by
        rw [rdL_nat _ i (by simp; omega), List.getElem_append_right (by simp)]
        simp
      refine Ev.step (f := fun k => (laws_markInt64S.f k rows[i] (a + (preLen rows i : Int))).bind fun t => laws_markInt64SS.l0 k (((List.range i).map (upRow a rows) ++ rows.drop i).set i t.2) t.1 ((i + 1 : Nat) : Int)) (fun k => ?_) (Ev.bind (markInt64S_ev rows[i] _ (by omega) (by omega)) ?_)
      · simp only [laws_markInt64SS.l0]
        rw [if_pos (by simp; omega), if_pos (by omega), hrow, wr (by omega) (by omega), Int.toNat_natCast]
        rfl
      · have e : ((List.range i).map (upRow a rows) ++ rows.drop i).set i (upFrom (a + (preLen rows i : Int)) rows[i].length) = (List.range (i + 1)).map (upRow a rows) ++ rows.drop (i + 1) := by
          rw [List.set_append_right _ _ (by simp), List.length_map, List.length_range, Nat.sub_self, List.drop_eq_getElem_cons hlt, List.set_cons_zero, List.range_succ, List.map_append, List.append_assoc, ← upRow_eq a rows i hlt]
          rfl
        simp only [e]
        rw [show a + (preLen rows i : Int) + (rows[i].length : Int) = a + (preLen rows (i + 1) : Int) by omega]
        exact ih (i + 1) (by omega)
  have := key rows.length 0 (by omega)
  simpa [preLen] using this
theorem heldInt64SS_ev (rows : List (List Int)) (a : Int) (ha : 0 ≤ a ∧ a ≤ 1073741824) (hl : rows.length ≤ 1073741824) (hs : allLen rows ≤ 1073741824) : Ev (fun k => laws_heldInt64SS.f k (upRows a rows) a) (a + (allLen rows : Int)) := by
  unfold laws_heldInt64SS.f
  have key : ∀ d i : Nat, i + d = rows.length → Ev (fun k => laws_heldInt64SS.l0 k (upRows a rows) (a + (preLen rows i : Int)) (i : Int)) (a + (allLen rows : Int)) := by
    intro d
    induction d with
    | zero =>
      intro i hi
      obtain rfl : i = rows.length := by omega
      refine Ev.step (f := fun _ => some (a + (allLen rows : Int))) (fun k => ?_) (Ev.now _)
      simp only [laws_heldInt64SS.l0]
      rw [if_neg (by simp [upRows_length]), preLen_end]
    | succ d ih =>
      intro i hi
      have hlt : i < rows.length := by omega
      have hp := preLen_succ rows i hlt
      have hp2 := preLen_le rows (i + 1)
      have hlt' : i < (upRows a rows).length := by rw [upRows_length]; exact hlt
      have hrow : rd_L1 (upRows a rows) (i : Int) = upFrom (a + (preLen rows i : Int)) rows[i].length := by
        rw [rdL_nat _ i hlt', ← upRow_eq a rows i hlt]
        simp [upRows]
      refine Ev.step (f := fun k => (laws_heldInt64S.f k (upFrom (a + (preLen rows i : Int)) rows[i].length) (a + (preLen rows i : Int))).bind fun t => if t < 0 then some (-1) else laws_heldInt64SS.l0 k (upRows a rows) t ((i + 1 : Nat) : Int)) (fun k => ?_) (Ev.bind (heldInt64S_ev (a + (preLen rows i : Int)) rows[i].length (by omega) (by omega)) ?_)
      · simp only [laws_heldInt64SS.l0]
        rw [if_pos (by simp [upRows_length]; omega), if_pos (by omega), hrow, wr (by omega) (by omega)]
        rfl
      · simp only [if_neg (show ¬ (a + (preLen rows i : Int) + (rows[i].length : Int) < 0) by omega)]
        rw [show a + (preLen rows i : Int) + (rows[i].length : Int) = a + (preLen rows (i + 1) : Int) by omega]
        exact ih (i + 1) (by omega)
  have := key rows.length 0 (by omega)
  simpa [preLen] using this
theorem markFamily_ev (p : Int) (rows : List (List Int)) (a : Int) (ha : 0 ≤ a ∧ a ≤ 1073741824) (hl : rows.length ≤ 1073741824) (hs : allLen rows ≤ 1073741824) : Ev (fun k => laws_markFamily.f k p rows a) (a + (allLen rows : Int), upRows a rows) := by
  unfold laws_markFamily.f
  exact markInt64SS_ev rows a ha hl hs
theorem heldFamily_ev (p : Int) (rows : List (List Int)) (a : Int) (ha : 0 ≤ a ∧ a ≤ 1073741824) (hl : rows.length ≤ 1073741824) (hs : allLen rows ≤ 1073741824) : Ev (fun k => laws_heldFamily.f k p (upRows a rows) a) (a + (allLen rows : Int)) := by
  unfold laws_heldFamily.f
  refine Ev.bind (heldInt64SS_ev rows a ha hl hs) ?_
  simp only [if_neg (show ¬ (a + (allLen rows : Int) < 0) by omega)]
  exact Ev.now _

end Go.Proofs.Ytenmlpngnpjpjaa.P

namespace Go.Proofs.Ytenmlpngnpjpjaa.P
open Go.RowKit Go.Proofs.YtenmlpngnpjpjaaW.PrintWords Go.Proofs.YtenmlpngnpjpjaaW.PrintLast Go.Proofs.YtenmlpngnpjpjaaW.PrintMore
attribute [local go_sem] max2_int min2_int max_two min_two max_three min_three max_four min_four
set_option linter.unusedVariables false
set_option linter.unusedSimpArgs false

/-! ### spec_SameFamily: function 10 -/
end Go.Proofs.Ytenmlpngnpjpjaa.P

namespace Go.Proofs.Ytenmlpngnpjpjaa.P
open Go.RowKit Go.Proofs.YtenmlpngnpjpjaaW.PrintWords Go.Proofs.YtenmlpngnpjpjaaW.PrintLast Go.Proofs.YtenmlpngnpjpjaaW.PrintMore
attribute [local go_sem] max2_int min2_int max_two min_two max_three min_three max_four min_four
set_option linter.unusedVariables false
set_option linter.unusedSimpArgs false

/-! ### laws_toFamily: function 11 -/
end Go.Proofs.Ytenmlpngnpjpjaa.P

namespace Go.Proofs.Ytenmlpngnpjpjaa.P
open Go.RowKit Go.Proofs.YtenmlpngnpjpjaaW.PrintWords Go.Proofs.YtenmlpngnpjpjaaW.PrintLast Go.Proofs.YtenmlpngnpjpjaaW.PrintMore
attribute [local go_sem] max2_int min2_int max_two min_two max_three min_three max_four min_four
set_option linter.unusedVariables false
set_option linter.unusedSimpArgs false

/-! ### impl_SameFamily: function 12 (by hand) -/
end Go.Proofs.Ytenmlpngnpjpjaa.P

namespace Go.Proofs.Ytenmlpngnpjpjaa.P
open Go.RowKit Go.Proofs.YtenmlpngnpjpjaaW.PrintWords Go.Proofs.YtenmlpngnpjpjaaW.PrintLast Go.Proofs.YtenmlpngnpjpjaaW.PrintMore
attribute [local go_sem] max2_int min2_int max_two min_two max_three min_three max_four min_four
set_option linter.unusedVariables false
set_option linter.unusedSimpArgs false

/-! ### laws_szFamily: function 9 -/
end Go.Proofs.Ytenmlpngnpjpjaa.P

namespace Go.Proofs.Ytenmlpngnpjpjaa.P
open Go.RowKit Go.Proofs.YtenmlpngnpjpjaaW.PrintWords Go.Proofs.YtenmlpngnpjpjaaW.PrintLast Go.Proofs.YtenmlpngnpjpjaaW.PrintMore
attribute [local go_sem] max2_int min2_int max_two min_two max_three min_three max_four min_four
set_option linter.unusedVariables false
set_option linter.unusedSimpArgs false

theorem eqFamily_same (p : Int) (l : List (List Int)) (hl : l.length ≤ 1048576) (hr : ∀ r ∈ l, r.length ≤ 1048576) : Ev (fun k => laws_eqFamily.f k p l p l) true := by
  unfold laws_eqFamily.f
  simp only [if_true]
  refine Ev.bind (eqInt64SS_same l hl hr) ?_
  simp only [if_true]
  exact Ev.now _
end Go.Proofs.Ytenmlpngnpjpjaa.P

namespace Go.Proofs.Ytenmlpngnpjpjaa.P
open Go.RowKit Go.Proofs.YtenmlpngnpjpjaaW.PrintWords Go.Proofs.YtenmlpngnpjpjaaW.PrintLast Go.Proofs.YtenmlpngnpjpjaaW.PrintMore
attribute [local go_sem] max2_int min2_int max_two min_two max_three min_three max_four min_four
set_option linter.unusedVariables false
set_option linter.unusedSimpArgs false

/-! ### spec_ThresholdFamily: function 28 -/
end Go.Proofs.Ytenmlpngnpjpjaa.P

namespace Go.Proofs.Ytenmlpngnpjpjaa.P
open Go.RowKit Go.Proofs.YtenmlpngnpjpjaaW.PrintWords Go.Proofs.YtenmlpngnpjpjaaW.PrintLast Go.Proofs.YtenmlpngnpjpjaaW.PrintMore
attribute [local go_sem] max2_int min2_int max_two min_two max_three min_three max_four min_four
set_option linter.unusedVariables false
set_option linter.unusedSimpArgs false

/-! ### bits_OnesCount64: function 73 -/
end Go.Proofs.Ytenmlpngnpjpjaa.P

namespace Go.Proofs.Ytenmlpngnpjpjaa.P
open Go.RowKit Go.Proofs.YtenmlpngnpjpjaaW.PrintWords Go.Proofs.YtenmlpngnpjpjaaW.PrintLast Go.Proofs.YtenmlpngnpjpjaaW.PrintMore
attribute [local go_sem] max2_int min2_int max_two min_two max_three min_three max_four min_four
set_option linter.unusedVariables false
set_option linter.unusedSimpArgs false

/-! ### bits_OnesCount: function 67 -/
end Go.Proofs.Ytenmlpngnpjpjaa.P

namespace Go.Proofs.Ytenmlpngnpjpjaa.P
open Go.RowKit Go.Proofs.YtenmlpngnpjpjaaW.PrintWords Go.Proofs.YtenmlpngnpjpjaaW.PrintLast Go.Proofs.YtenmlpngnpjpjaaW.PrintMore
attribute [local go_sem] max2_int min2_int max_two min_two max_three min_three max_four min_four
set_option linter.unusedVariables false
set_option linter.unusedSimpArgs false

/-! ### impl_crowd_size: function 56 -/
end Go.Proofs.Ytenmlpngnpjpjaa.P

namespace Go.Proofs.Ytenmlpngnpjpjaa.P
open Go.RowKit Go.Proofs.YtenmlpngnpjpjaaW.PrintWords Go.Proofs.YtenmlpngnpjpjaaW.PrintLast Go.Proofs.YtenmlpngnpjpjaaW.PrintMore
attribute [local go_sem] max2_int min2_int max_two min_two max_three min_three max_four min_four
set_option linter.unusedVariables false
set_option linter.unusedSimpArgs false

end Go.Proofs.Ytenmlpngnpjpjaa.P

namespace Go.Proofs.Ytenmlpngnpjpjaa.P
open Go.RowKit Go.Proofs.YtenmlpngnpjpjaaW.PrintWords Go.Proofs.YtenmlpngnpjpjaaW.PrintLast Go.Proofs.YtenmlpngnpjpjaaW.PrintMore
attribute [local go_sem] max2_int min2_int max_two min_two max_three min_three max_four min_four
set_option linter.unusedVariables false
set_option linter.unusedSimpArgs false

/-! ### impl_ThresholdFamily: function 29 (by hand) -/
end Go.Proofs.Ytenmlpngnpjpjaa.P

namespace Go.Proofs.Ytenmlpngnpjpjaa.P
open Go.RowKit Go.Proofs.YtenmlpngnpjpjaaW.PrintWords Go.Proofs.YtenmlpngnpjpjaaW.PrintLast Go.Proofs.YtenmlpngnpjpjaaW.PrintMore
attribute [local go_sem] max2_int min2_int max_two min_two max_three min_three max_four min_four
set_option linter.unusedVariables false
set_option linter.unusedSimpArgs false

/-! ### spec_l01Within: function 60 -/
end Go.Proofs.Ytenmlpngnpjpjaa.P

namespace Go.Proofs.Ytenmlpngnpjpjaa.P
open Go.RowKit Go.Proofs.YtenmlpngnpjpjaaW.PrintWords Go.Proofs.YtenmlpngnpjpjaaW.PrintLast Go.Proofs.YtenmlpngnpjpjaaW.PrintMore
attribute [local go_sem] max2_int min2_int max_two min_two max_three min_three max_four min_four
set_option linter.unusedVariables false
set_option linter.unusedSimpArgs false

/-! ### spec_l01Ok: function 36 -/
end Go.Proofs.Ytenmlpngnpjpjaa.P

namespace Go.Proofs.Ytenmlpngnpjpjaa.P
open Go.RowKit Go.Proofs.YtenmlpngnpjpjaaW.PrintWords Go.Proofs.YtenmlpngnpjpjaaW.PrintLast Go.Proofs.YtenmlpngnpjpjaaW.PrintMore
attribute [local go_sem] max2_int min2_int max_two min_two max_three min_three max_four min_four
set_option linter.unusedVariables false
set_option linter.unusedSimpArgs false

/-! ### spec_NeededHolders: function 16 -/
end Go.Proofs.Ytenmlpngnpjpjaa.P

namespace Go.Proofs.Ytenmlpngnpjpjaa.P
open Go.RowKit Go.Proofs.YtenmlpngnpjpjaaW.PrintWords Go.Proofs.YtenmlpngnpjpjaaW.PrintLast Go.Proofs.YtenmlpngnpjpjaaW.PrintMore
attribute [local go_sem] max2_int min2_int max_two min_two max_three min_three max_four min_four
set_option linter.unusedVariables false
set_option linter.unusedSimpArgs false

/-! ### impl_crowd_contains: function 41 -/
end Go.Proofs.Ytenmlpngnpjpjaa.P

namespace Go.Proofs.Ytenmlpngnpjpjaa.P
open Go.RowKit Go.Proofs.YtenmlpngnpjpjaaW.PrintWords Go.Proofs.YtenmlpngnpjpjaaW.PrintLast Go.Proofs.YtenmlpngnpjpjaaW.PrintMore
attribute [local go_sem] max2_int min2_int max_two min_two max_three min_three max_four min_four
set_option linter.unusedVariables false
set_option linter.unusedSimpArgs false

/-! ### impl_ValidFamily: function 15 -/
end Go.Proofs.Ytenmlpngnpjpjaa.P

namespace Go.Proofs.Ytenmlpngnpjpjaa.P
open Go.RowKit Go.Proofs.YtenmlpngnpjpjaaW.PrintWords Go.Proofs.YtenmlpngnpjpjaaW.PrintLast Go.Proofs.YtenmlpngnpjpjaaW.PrintMore
attribute [local go_sem] max2_int min2_int max_two min_two max_three min_three max_four min_four
set_option linter.unusedVariables false
set_option linter.unusedSimpArgs false

/-! ### impl_Family_needed: function 44 -/
end Go.Proofs.Ytenmlpngnpjpjaa.P

namespace Go.Proofs.Ytenmlpngnpjpjaa.P
open Go.RowKit Go.Proofs.YtenmlpngnpjpjaaW.PrintWords Go.Proofs.YtenmlpngnpjpjaaW.PrintLast Go.Proofs.YtenmlpngnpjpjaaW.PrintMore
attribute [local go_sem] max2_int min2_int max_two min_two max_three min_three max_four min_four
set_option linter.unusedVariables false
set_option linter.unusedSimpArgs false

/-! ### impl_NeededHolders: function 17 -/
end Go.Proofs.Ytenmlpngnpjpjaa.P

namespace Go.Proofs.Ytenmlpngnpjpjaa.P
open Go.RowKit Go.Proofs.YtenmlpngnpjpjaaW.PrintWords Go.Proofs.YtenmlpngnpjpjaaW.PrintLast Go.Proofs.YtenmlpngnpjpjaaW.PrintMore
attribute [local go_sem] max2_int min2_int max_two min_two max_three min_three max_four min_four
set_option linter.unusedVariables false
set_option linter.unusedSimpArgs false

/-! ### spec_VetoHolders: function 22 -/
end Go.Proofs.Ytenmlpngnpjpjaa.P

namespace Go.Proofs.Ytenmlpngnpjpjaa.P
open Go.RowKit Go.Proofs.YtenmlpngnpjpjaaW.PrintWords Go.Proofs.YtenmlpngnpjpjaaW.PrintLast Go.Proofs.YtenmlpngnpjpjaaW.PrintMore
attribute [local go_sem] max2_int min2_int max_two min_two max_three min_three max_four min_four
set_option linter.unusedVariables false
set_option linter.unusedSimpArgs false

/-! ### impl_VetoHolders: function 23 -/
end Go.Proofs.Ytenmlpngnpjpjaa.P

namespace Go.Proofs.Ytenmlpngnpjpjaa.P
open Go.RowKit Go.Proofs.YtenmlpngnpjpjaaW.PrintWords Go.Proofs.YtenmlpngnpjpjaaW.PrintLast Go.Proofs.YtenmlpngnpjpjaaW.PrintMore
attribute [local go_sem] max2_int min2_int max_two min_two max_three min_three max_four min_four
set_option linter.unusedVariables false
set_option linter.unusedSimpArgs false

end Go.Proofs.Ytenmlpngnpjpjaa.P

namespace Go.Proofs.Ytenmlpngnpjpjaa.P
open Go.RowKit Go.Proofs.YtenmlpngnpjpjaaW.PrintWords Go.Proofs.YtenmlpngnpjpjaaW.PrintLast Go.Proofs.YtenmlpngnpjpjaaW.PrintMore
attribute [local go_sem] max2_int min2_int max_two min_two max_three min_three max_four min_four
set_option linter.unusedVariables false
set_option linter.unusedSimpArgs false

end Go.Proofs.Ytenmlpngnpjpjaa.P

namespace Go.Proofs.Ytenmlpngnpjpjaa.P
open Go.RowKit Go.Proofs.YtenmlpngnpjpjaaW.PrintWords Go.Proofs.YtenmlpngnpjpjaaW.PrintLast Go.Proofs.YtenmlpngnpjpjaaW.PrintMore
attribute [local go_sem] max2_int min2_int max_two min_two max_three min_three max_four min_four
set_option linter.unusedVariables false
set_option linter.unusedSimpArgs false

/-! ### spec_ValidFamily: function 14 -/
end Go.Proofs.Ytenmlpngnpjpjaa.P

namespace Go.Proofs.Ytenmlpngnpjpjaa.P
open Go.RowKit Go.Proofs.YtenmlpngnpjpjaaW.PrintWords Go.Proofs.YtenmlpngnpjpjaaW.PrintLast Go.Proofs.YtenmlpngnpjpjaaW.PrintMore
attribute [local go_sem] max2_int min2_int max_two min_two max_three min_three max_four min_four
set_option linter.unusedVariables false
set_option linter.unusedSimpArgs false

end Go.Proofs.Ytenmlpngnpjpjaa.P

namespace Go.Proofs.Ytenmlpngnpjpjaa.P
open Go.RowKit Go.Proofs.YtenmlpngnpjpjaaW.PrintWords Go.Proofs.YtenmlpngnpjpjaaW.PrintLast Go.Proofs.YtenmlpngnpjpjaaW.PrintMore
attribute [local go_sem] max2_int min2_int max_two min_two max_three min_three max_four min_four
set_option linter.unusedVariables false
set_option linter.unusedSimpArgs false

/-- The holders of a set. -/
def membersN (x : Nat) : List Int := ((List.range 7).filter fun h => (x >>> h) &&& 1 == 1).map fun h : Nat => (h : Int)
theorem membersN_len (x : Nat) : (membersN x).length ≤ 7 := by
  unfold membersN
  rw [List.length_map]
  exact Nat.le_trans (List.length_filter_le _ _) (by simp)
theorem spec_l01Of_all : ∀ x : Fin 128, spec_l01Of.f 12 (x.val : Int) = some (membersN x.val) := by decide +kernel
theorem impl_group_all : ∀ x : Fin 128, impl_crowd_group.f 12 (x.val : Int) = some (membersN x.val) := by decide +kernel
theorem spec_l01Of_ev {x : Nat} (hx : x < 128) : Ev (fun k => spec_l01Of.f k (x : Int)) (membersN x) := Ev.of (spec_l01Of.mono _) (k := 12) (spec_l01Of_all ⟨x, hx⟩)
theorem impl_crowd_group_ev {x : Nat} (hx : x < 128) : Ev (fun k => impl_crowd_group.f k (x : Int)) (membersN x) := Ev.of (impl_crowd_group.mono _) (k := 12) (impl_group_all ⟨x, hx⟩)
theorem allU0 : ∀ h : Fin 8, IntKind.u64.wrap ((shl .u64 1 (h.val : Int)) - 1) = ((2 ^ h.val - 1 : Nat) : Int) := by decide +kernel
end Go.Proofs.Ytenmlpngnpjpjaa.P

namespace Go.Proofs.Ytenmlpngnpjpjaa.P
open Go.RowKit Go.Proofs.YtenmlpngnpjpjaaW.PrintWords Go.Proofs.YtenmlpngnpjpjaaW.PrintLast Go.Proofs.YtenmlpngnpjpjaaW.PrintMore
attribute [local go_sem] max2_int min2_int max_two min_two max_three min_three max_four min_four
set_option linter.unusedVariables false
set_option linter.unusedSimpArgs false

/-- A set without its i'th holder. -/
def dropN (c i : Nat) : Nat := c &&& (127 - 2 ^ i)
theorem dropN_le (c i : Nat) : dropN c i ≤ c := Nat.and_le_left
theorem drop_u : ∀ x : Fin 128, ∀ i : Fin 7, Go.bits .andNot .u64 (x.val : Int) (IntKind.u64.wrap (2 ^ min (i.val : Int).toNat 64)) = (dropN x.val i.val : Nat) := by decide +kernel
theorem drop_i : ∀ x : Fin 128, ∀ i : Fin 7, Go.bits .andNot .i64 (x.val : Int) (shl .i64 1 (IntKind.u64.wrap (i.val : Int))) = (dropN x.val i.val : Nat) := by decide +kernel
theorem has_u : ∀ x : Fin 128, ∀ i : Fin 7, impl_crowd_has.f (x.val : Int) (i.val : Int) = some (x.val.testBit i.val) := by decide +kernel
theorem has_i : ∀ x : Fin 128, ∀ i : Fin 7, decide (Go.bits .and .i64 (shr .i64 (x.val : Int) (IntKind.u64.wrap (i.val : Int))) 1 = 1) = x.val.testBit i.val := by decide +kernel
theorem pow_le7 : ∀ h : Fin 8, 2 ^ h.val ≤ 128 := by decide
/-- c is asked for, and none of its holders can be spared. -/
def leastB (n : Nat) (isV : Nat → Bool) (c : Nat) : Bool := isV c && (List.range' 0 n).all fun i => !(c.testBit i && isV (dropN c i))
/-- The sets below c that fV takes. -/
def outF (fV : Nat → Bool) (c : Nat) : List (List Int) := ((List.range c).filter fV).map membersN
theorem outF_succ (fV : Nat → Bool) (c : Nat) : outF fV (c + 1) = if fV c = true then outF fV c ++ [membersN c] else outF fV c := by
  unfold outF
  rw [List.range_succ, List.filter_append, List.map_append]
  cases h : fV c with
  | true => rw [if_pos rfl, List.filter_cons_of_pos (by exact h)]; rfl
  | false => rw [if_neg (by decide), List.filter_cons_of_neg (by rw [h]; decide)]; simp
theorem outF_len (fV : Nat → Bool) (c : Nat) : (outF fV c).length ≤ c := by
  unfold outF
  rw [List.length_map]
  exact Nat.le_trans (List.length_filter_le _ _) (by simp)
theorem outF_mem (fV : Nat → Bool) (c : Nat) : ∀ g ∈ outF fV c, g.length ≤ 7 := fun g hg => by
  obtain ⟨x, _, rfl⟩ := List.mem_map.1 hg
  exact membersN_len x
theorem fam_key {isF : Nat → Int → Option Bool} {isV : Nat → Bool} (h : Nat) (hh : h ≤ 7) (hF : ∀ c : Nat, c < 2 ^ h → Ev (fun k => isF k (c : Int)) (isV c)) (c : Nat) (hc : c < 2 ^ h) : ∀ d i : Nat, i + d = h → Ev (fun k => famIs.l0 isF k (h : Int) (c : Int) (i : Int)) ((List.range' i d).all fun i => !(c.testBit i && isV (dropN c i))) := by
  have hp : 2 ^ h ≤ 128 := pow_le7 ⟨h, by omega⟩
  intro d
  induction d with
  | zero =>
    intro i hi
    refine Ev.step (f := fun _ => some true) (fun k => ?_) (Ev.now _)
    have c1 : ¬ (i : Int) < (h : Int) := by omega
    simp only [famIs.l0, if_neg c1]
  | succ d ih =>
    intro i hi
    have c1 : (i : Int) < (h : Int) := by omega
    have c2 : (0 : Int) ≤ (i : Int) := by omega
    have e1 : impl_crowd_has.f (c : Int) (i : Int) = some (c.testBit i) := has_u ⟨c, by omega⟩ ⟨i, by omega⟩
    have e2 : Go.bits .andNot .u64 (c : Int) (IntKind.u64.wrap (2 ^ min (i : Int).toNat 64)) = (dropN c i : Nat) := drop_u ⟨c, by omega⟩ ⟨i, by omega⟩
    have hd : dropN c i < 2 ^ h := Nat.lt_of_le_of_lt (dropN_le c i) hc
    have ihn := ih (i + 1) (by omega)
    have hw : wrap64 ((i : Int) + 1) = ((i + 1 : Nat) : Int) := by rw [wr (by omega) (by omega)]; rfl
    rw [List.range'_succ, List.all_cons]
    cases hb : c.testBit i with
    | false =>
      rw [hb] at e1
      refine Ev.step (f := fun k => famIs.l0 isF k (h : Int) (c : Int) ((i + 1 : Nat) : Int)) (fun k => ?_) ?_
      · simp only [famIs.l0, if_pos c1, e1, Option.bind_some, Bool.false_eq_true, if_false, hw]
      · simp only [Bool.false_and, Bool.not_false, Bool.true_and]
        exact ihn
    | true =>
      rw [hb] at e1
      refine Ev.step (f := fun k => (isF k ((dropN c i : Nat) : Int)).bind fun b => if b = true then some false else famIs.l0 isF k (h : Int) (c : Int) ((i + 1 : Nat) : Int)) (fun k => ?_) (Ev.bind (hF _ hd) ?_)
      · simp only [famIs.l0, if_pos c1, e1, Option.bind_some, if_true, if_pos c2, e2, hw]
      · cases hv : isV (dropN c i) with
        | true => simp only [if_true, Bool.and_self, Bool.not_true, Bool.false_and]; exact Ev.now _
        | false =>
          simp only [Bool.false_eq_true, if_false, Bool.and_false, Bool.not_false, Bool.true_and]
          exact ihn
theorem famIs_ev {isF : Nat → Int → Option Bool} {isV : Nat → Bool} (h : Nat) (hh : h ≤ 7) (hF : ∀ c : Nat, c < 2 ^ h → Ev (fun k => isF k (c : Int)) (isV c)) (c : Nat) (hc : c < 2 ^ h) : Ev (fun k => famIs isF (h : Int) k (c : Int)) (leastB h isV c) := by
  unfold famIs leastB
  refine Ev.bind (hF c hc) ?_
  cases hv : isV c with
  | false => simp only [Bool.false_eq_true, if_false, Bool.false_and]; exact Ev.now _
  | true =>
    simp only [if_true, Bool.true_and]
    exact fam_key h hh hF c hc h 0 (by omega)
theorem wrapU_succ : ∀ c : Fin 128, IntKind.u64.wrap ((c.val : Int) + 1) = ((c.val + 1 : Nat) : Int) := by decide +kernel
theorem impl_everybody_ev (h : Nat) (hh : h ≤ 7) : impl_everybody.f (h : Int) = some ((2 ^ h - 1 : Nat) : Int) := by
  have := allU0 ⟨h, by omega⟩
  unfold impl_everybody.f
  rw [if_pos (by omega), this]
theorem crB_ev {isF : Nat → Int → Option Bool} {fV : Nat → Bool} (h : Nat) (hh : h ≤ 7) (hF : ∀ c : Nat, c < 2 ^ h → Ev (fun k => isF k (c : Int)) (fV c)) : Ev (fun k => crB.f isF k (h : Int)) (sortL (outF fV (2 ^ h))) := by
  have hp : 2 ^ h ≤ 128 := pow_le7 ⟨h, by omega⟩
  have hp1 : 1 ≤ 2 ^ h := Nat.one_le_two_pow
  have e0 := impl_everybody_ev h hh
  have key : ∀ d c : Nat, c + d = 2 ^ h → Ev (fun k => crB.l0 isF k (h : Int) (outF fV c) (c : Int)) (outF fV (2 ^ h)) := by
    intro d
    induction d with
    | zero =>
      intro c hc
      rw [show c = 2 ^ h by omega]
      refine Ev.step (f := fun _ => some (outF fV (2 ^ h))) (fun k => ?_) (Ev.now _)
      have c1 : ¬ ((2 ^ h : Nat) : Int) ≤ ((2 ^ h - 1 : Nat) : Int) := by omega
      simp only [crB.l0, e0, Option.bind_some, if_neg c1]
    | succ d ih =>
      intro c hc
      have c1 : (c : Int) ≤ ((2 ^ h - 1 : Nat) : Int) := by omega
      have hlt : c < 128 := by omega
      have hl := outF_len fV c
      have hl2 : (outF fV c).length < 1000 := by omega
      have ew : IntKind.u64.wrap ((c : Int) + 1) = ((c + 1 : Nat) : Int) := wrapU_succ ⟨c, hlt⟩
      have ihn := ih (c + 1) (by omega)
      rw [outF_succ] at ihn
      refine Ev.step (f := fun k => (isF k (c : Int)).bind fun b => if b = true then ((impl_crowd_group.f k (c : Int)).bind fun g => crB.l0 isF k (h : Int) (outF fV c ++ [g]) ((c + 1 : Nat) : Int)) else crB.l0 isF k (h : Int) (outF fV c) ((c + 1 : Nat) : Int)) (fun k => ?_) (Ev.bind (hF c (by omega)) ?_)
      · simp only [crB.l0, e0, Option.bind_some, if_pos c1, if_pos hl2, ew]
      · cases hv : fV c with
        | true =>
          rw [hv, if_pos rfl] at ihn
          simp only [if_true]
          exact Ev.bind (impl_crowd_group_ev hlt) ihn
        | false =>
          rw [hv, if_neg (by decide)] at ihn
          simp only [Bool.false_eq_true, if_false]
          exact ihn
  unfold crB.f
  refine Ev.bind (key (2 ^ h) 0 (by omega)) ?_
  have hok : crOk (outF fV (2 ^ h)) = true := by
    unfold crOk
    have hl := outF_len fV (2 ^ h)
    simp only [Bool.and_eq_true, decide_eq_true_eq]
    refine ⟨by omega, List.all_eq_true.mpr fun g hg => decide_eq_true ?_⟩
    have := outF_mem fV _ g hg
    omega
  rw [if_pos hok]
  exact Ev.now _

end Go.Proofs.Ytenmlpngnpjpjaa.P

namespace Go.Proofs.Ytenmlpngnpjpjaa.P
open Go.RowKit Go.Proofs.YtenmlpngnpjpjaaW.PrintWords Go.Proofs.YtenmlpngnpjpjaaW.PrintLast Go.Proofs.YtenmlpngnpjpjaaW.PrintMore
attribute [local go_sem] max2_int min2_int max_two min_two max_three min_three max_four min_four
set_option linter.unusedVariables false
set_option linter.unusedSimpArgs false

/-- x goes down past what is greater. -/
def insR : List (List Int) → List Int → List (List Int) → List (List Int)
  | [], x, mid => x :: mid
  | y :: rp, x, mid => if ltB x y = true then insR rp x (y :: mid) else rp.reverse ++ y :: x :: mid
theorem insR_perm : ∀ (rp : List (List Int)) (x : List Int) (mid : List (List Int)), (insR rp x mid).Perm (rp.reverse ++ x :: mid)
  | [], x, mid => by simp [insR]
  | y :: rp, x, mid => by
    unfold insR
    split
    · refine (insR_perm rp x (y :: mid)).trans ?_
      rw [List.reverse_cons, List.append_assoc]
      exact List.Perm.append_left _ (List.Perm.swap y x mid)
    · rw [List.reverse_cons, List.append_assoc]
      exact List.Perm.refl _
theorem insR_sorted : ∀ (rp : List (List Int)) (x : List Int) (mid : List (List Int)), (rp.reverse ++ mid).Pairwise (fun a b => ltB b a = false) → (∀ m ∈ mid, ltB m x = false) → (insR rp x mid).Pairwise (fun a b => ltB b a = false)
  | [], x, mid, h, hx => by
    unfold insR
    exact List.pairwise_cons.2 ⟨hx, h⟩
  | y :: rp, x, mid, h, hx => by
    unfold insR
    rw [List.reverse_cons, List.append_assoc, List.singleton_append] at h
    split
    · rename_i hlt
      refine insR_sorted rp x (y :: mid) h (fun m hm => ?_)
      rcases List.mem_cons.1 hm with e | hm
      · subst e
        cases h3 : ltB m x with
        | false => rfl
        | true => exact absurd (ltL_trans m x m h3 hlt) (by rw [ltL_irrefl]; decide)
      · exact hx m hm
    · rename_i hlt
      have hxy : ltB x y = false := by simpa using hlt
      rw [List.pairwise_append] at h ⊢
      have h2 := List.pairwise_cons.1 h.2.1
      refine ⟨h.1, List.pairwise_cons.2 ⟨fun m hm => ?_, List.pairwise_cons.2 ⟨hx, h2.2⟩⟩, fun a ha b hb => ?_⟩
      · rcases List.mem_cons.1 hm with e | hm
        · subst e; exact hxy
        · exact h2.1 m hm
      · rcases List.mem_cons.1 hb with e | hb
        · exact h.2.2 a ha b (by rw [e]; exact List.mem_cons_self ..)
        · rcases List.mem_cons.1 hb with e | hb
          · subst e
            exact ltL_ntrans b y a hxy (h.2.2 a ha y (List.mem_cons_self ..))
          · exact h.2.2 a ha b (List.mem_cons_of_mem _ hb)
theorem rdL_mid (pre : List (List Int)) (x : List Int) (suf : List (List Int)) : rd_L1 (pre ++ x :: suf) (pre.length : Int) = x := by
  unfold rd_L1
  simp
/-- The inner loop. -/
theorem sorted_l1_ev : ∀ (rp : List (List Int)) (x : List Int) (mid : List (List Int)), rp.length + mid.length ≤ 100000 → (∀ g ∈ rp, g.length ≤ 4611686018427387904) → x.length ≤ 4611686018427387904 → Ev (fun k => spec_l01Sorted.l1 k (rp.reverse ++ x :: mid) (rp.length : Int)) (insR rp x mid)
  | [], x, mid, _, _, _ => by
    refine Ev.step (f := fun _ => some (x :: mid)) (fun k => ?_) (Ev.now _)
    have c : ¬ (0 : Int) < (([] : List (List Int)).length : Int) := by simp
    simp only [spec_l01Sorted.l1, if_neg c]
    rfl
  | y :: rp, x, mid, hl, hg, hx => by
    rw [List.length_cons] at hl
    have hy := hg y (List.mem_cons_self ..)
    have eb := spec_l01Before_ev x y hx hy
    have c1 : (0 : Int) < ((rp.length + 1 : Nat) : Int) := by omega
    have c2 : ((rp.length + 1 : Nat) : Int) < (((y :: rp).reverse ++ x :: mid).length : Int) := by simp only [List.length_append, List.length_reverse, List.length_cons]; omega
    have c3 : (0 : Int) ≤ (rp.length : Int) := by omega
    have c4 : (rp.length : Int) < (((y :: rp).reverse ++ x :: mid).length : Int) := by simp only [List.length_append, List.length_reverse, List.length_cons]; omega
    have e1 : rd_L1 ((y :: rp).reverse ++ x :: mid) ((rp.length + 1 : Nat) : Int) = x := by
      have := rdL_mid (y :: rp).reverse x mid
      rw [List.length_reverse, List.length_cons] at this
      exact this
    have e2 : rd_L1 ((y :: rp).reverse ++ x :: mid) (rp.length : Int) = y := by
      have := rdL_mid rp.reverse y (x :: mid)
      rw [List.length_reverse] at this
      rw [List.reverse_cons, List.append_assoc]
      exact this
    have hsw : (((y :: rp).reverse ++ x :: mid).set (rp.length + 1) y).set rp.length x = rp.reverse ++ x :: (y :: mid) := by
      rw [List.reverse_cons, List.append_assoc, List.singleton_append]
      rw [List.set_append_right _ _ (by rw [List.length_reverse]; omega), List.length_reverse, show rp.length + 1 - rp.length = 1 by omega, List.set_append_right _ _ (by rw [List.length_reverse]; omega), List.length_reverse, Nat.sub_self]
      rfl
    have hw : wrap64 (((rp.length + 1 : Nat) : Int) - 1) = (rp.length : Int) := by rw [wr (by omega) (by omega)]; omega
    refine Ev.step (f := fun k => (spec_l01Before.f k x y).bind fun t => if t = true then spec_l01Sorted.l1 k (rp.reverse ++ x :: (y :: mid)) (rp.length : Int) else some ((y :: rp).reverse ++ x :: mid)) (fun k => ?_) (Ev.bind eb ?_)
    · show spec_l01Sorted.l1 (k + 1) ((y :: rp).reverse ++ x :: mid) ((rp.length + 1 : Nat) : Int) = _
      simp only [spec_l01Sorted.l1, if_pos c1, if_pos c2, hw, if_pos c3, if_pos c4, e1, e2, Int.toNat_natCast, hsw]
    · cases hb : ltB x y with
      | true =>
        simp only [if_true]
        rw [show insR (y :: rp) x mid = insR rp x (y :: mid) by simp only [insR, hb, if_true]]
        exact sorted_l1_ev rp x (y :: mid) (by rw [List.length_cons]; clear hw; omega) (fun g hg' => hg g (List.mem_cons_of_mem _ hg')) hx
      | false =>
        simp only [Bool.false_eq_true, if_false]
        rw [show insR (y :: rp) x mid = (y :: rp).reverse ++ x :: mid by simp only [insR, hb, Bool.false_eq_true, if_false]; rw [List.reverse_cons, List.append_assoc]; rfl]
        exact Ev.now _
theorem sorted_l0_ev : ∀ (rest dn : List (List Int)), dn.length + rest.length ≤ 100000 → (∀ g ∈ dn, g.length ≤ 4611686018427387904) → (∀ g ∈ rest, g.length ≤ 4611686018427387904) → dn.Pairwise (fun a b => ltB b a = false) → ∃ ys, Ev (fun k => spec_l01Sorted.l0 k (dn ++ rest) (dn.length : Int)) ys ∧ ys.Perm (dn ++ rest) ∧ ys.Pairwise (fun a b => ltB b a = false)
  | [], dn, hl, hd, hr, hs => by
    rw [List.append_nil]
    refine ⟨dn, Ev.step (f := fun _ => some dn) (fun k => ?_) (Ev.now _), List.Perm.refl _, hs⟩
    have c : ¬ (dn.length : Int) < (dn.length : Int) := by omega
    simp only [spec_l01Sorted.l0, if_neg c]
  | x :: rest, dn, hl, hd, hr, hs => by
    rw [List.length_cons] at hl
    have hx := hr x (List.mem_cons_self ..)
    have hp := insR_perm dn.reverse x []
    rw [List.reverse_reverse] at hp
    have hlen : (insR dn.reverse x []).length = dn.length + 1 := by rw [hp.length_eq]; simp
    have hmem : ∀ g ∈ insR dn.reverse x [], g.length ≤ 4611686018427387904 := fun g hg => by
      rcases List.mem_append.1 (hp.mem_iff.1 hg) with h | h
      · exact hd g h
      · rw [List.mem_singleton.1 h]; exact hx
    have hsrt : (insR dn.reverse x []).Pairwise (fun a b => ltB b a = false) := insR_sorted dn.reverse x [] (by rw [List.reverse_reverse, List.append_nil]; exact hs) (fun m hm => absurd hm (by simp))
    obtain ⟨ys, e1, e2, e3⟩ := sorted_l0_ev rest (insR dn.reverse x []) (by omega) hmem (fun g hg => hr g (List.mem_cons_of_mem _ hg)) hsrt
    -- the inner loop with what is not looked at behind it
    have hin : ∀ (rp : List (List Int)) (x : List Int) (mid : List (List Int)), insR rp x (mid ++ rest) = insR rp x mid ++ rest := by
      intro rp
      induction rp with
      | nil => intro x mid; rfl
      | cons y rp ih =>
        intro x mid
        unfold insR
        split
        · exact ih x (y :: mid)
        · simp
    have ei := sorted_l1_ev dn.reverse x rest (by rw [List.length_reverse]; omega) (fun g hg => hd g (List.mem_reverse.1 hg)) hx
    rw [List.reverse_reverse, List.length_reverse, show insR dn.reverse x rest = insR dn.reverse x [] ++ rest from hin dn.reverse x []] at ei
    have c1 : (dn.length : Int) < ((dn ++ x :: rest).length : Int) := by simp only [List.length_append, List.length_cons]; omega
    rw [hlen] at e1
    have hw : wrap64 ((dn.length : Int) + 1) = ((dn.length + 1 : Nat) : Int) := by rw [wr (by omega) (by omega)]; rfl
    refine ⟨ys, Ev.step (f := fun k => (spec_l01Sorted.l1 k (dn ++ x :: rest) (dn.length : Int)).bind fun ys => spec_l01Sorted.l0 k ys ((dn.length + 1 : Nat) : Int)) (fun k => ?_) (Ev.bind ei e1), e2.trans ?_, e3⟩
    · simp only [spec_l01Sorted.l0, if_pos c1, hw]
    · refine (List.Perm.append_right rest hp).trans ?_
      rw [List.append_assoc]
      exact List.Perm.refl _
/-- The reference's sort. -/
theorem spec_l01Sorted_ev (xs : List (List Int)) (hl : xs.length ≤ 100000) (hg : ∀ g ∈ xs, g.length ≤ 4611686018427387904) : Ev (fun k => spec_l01Sorted.f k xs) (sortL xs) := by
  cases xs with
  | nil =>
    refine Ev.congr (f := fun k => spec_l01Sorted.l0 k [] 1) (fun k => rfl) (Ev.step (f := fun _ => some []) (fun k => ?_) ?_)
    · have c : ¬ (1 : Int) < (([] : List (List Int)).length : Int) := by simp
      simp only [spec_l01Sorted.l0, if_neg c]
    · rw [show sortL [] = [] from (sortL_unique (xs := []) (ys := []) (List.Perm.refl _) List.Pairwise.nil).symm]
      exact Ev.now _
  | cons x rest =>
    rw [List.length_cons] at hl
    obtain ⟨ys, e1, e2, e3⟩ := sorted_l0_ev rest [x] (by simp; omega) (fun g h => hg g (by rw [List.mem_singleton.1 h]; exact List.mem_cons_self ..)) (fun g h => hg g (List.mem_cons_of_mem _ h)) (List.pairwise_singleton _ _)
    rw [← sortL_unique (xs := x :: rest) e2 e3]
    exact e1

end Go.Proofs.Ytenmlpngnpjpjaa.P

namespace Go.Proofs.Ytenmlpngnpjpjaa.P
open Go.RowKit Go.Proofs.YtenmlpngnpjpjaaW.PrintWords Go.Proofs.YtenmlpngnpjpjaaW.PrintLast Go.Proofs.YtenmlpngnpjpjaaW.PrintMore
attribute [local go_sem] max2_int min2_int max_two min_two max_three min_three max_four min_four
set_option linter.unusedVariables false
set_option linter.unusedSimpArgs false

theorem shl_n : ∀ h : Fin 8, shl .i64 1 (IntKind.u64.wrap (h.val : Int)) = ((2 ^ h.val : Nat) : Int) := by decide +kernel
theorem wrapU_n {n : Nat} (hn : n ≤ 7) : (0 : Int) ≤ IntKind.u64.wrap (n : Int) := wrapU (by omega)
theorem rdOf_map (isV : Nat → Bool) (n c : Nat) (h : c < n) : rdOf false ((List.range n).map isV) (c : Int) = isV c := by
  unfold rdOf
  simp [h]
/-- The end of the round over one set. -/
def fromEnd (n : Nat) (isV : Nat → Bool) (out : List (List Int)) (c : Nat) (b : Bool) (k : Nat) : Option (Int × List (List Int)) :=
  if b = true then ((spec_l01Of.f k (c : Int)).bind fun t => (if out.length < 5864062014805 then (spec_l01From.l0 k (n : Int) ((List.range (2 ^ n)).map isV) (out ++ [t]) (wrap64 ((c : Int) + 1))) else (none))) else (spec_l01From.l0 k (n : Int) ((List.range (2 ^ n)).map isV) out (wrap64 ((c : Int) + 1)))
theorem from_end {isV : Nat → Bool} (n : Nat) (out : List (List Int)) (c : Nat) (b : Bool) (i : Int) (y : Int × List (List Int)) (hi : ¬ i < (n : Int) ∨ b = false) (h : Ev (fun k => fromEnd n isV out c b k) y) : Ev (fun k => spec_l01From.l1 k (n : Int) ((List.range (2 ^ n)).map isV) out (c : Int) b i) y := by
  refine Ev.step (f := fun k => spec_l01From.j2 k (n : Int) ((List.range (2 ^ n)).map isV) out (c : Int) b i false) (fun k => ?_) (Ev.step (f := fun k => fromEnd n isV out c b k) (fun k => ?_) h)
  · rcases hi with hi | hi
    · simp only [spec_l01From.l1, if_neg hi]
    · subst hi
      simp only [spec_l01From.l1, ite_self]
  · simp only [spec_l01From.j2, Bool.false_eq_true, if_false, fromEnd]
theorem from_l1 {isV : Nat → Bool} (n : Nat) (hn : n ≤ 7) (c : Nat) (hc : c < 2 ^ n) (out : List (List Int)) (y : Int × List (List Int)) : ∀ d i : Nat, i + d = n →
    Ev (fun k => fromEnd n isV out c ((List.range' i d).all fun i => !(c.testBit i && isV (dropN c i))) k) y → Ev (fun k => spec_l01From.l1 k (n : Int) ((List.range (2 ^ n)).map isV) out (c : Int) true (i : Int)) y := by
  intro d
  have hp : 2 ^ n ≤ 128 := pow_le7 ⟨n, by omega⟩
  induction d with
  | zero =>
    intro i hi h
    exact from_end n out c true _ y (Or.inl (by omega)) h
  | succ d ih =>
    intro i hi h
    have c1 : (i : Int) < (n : Int) := by omega
    have c2 : (0 : Int) ≤ IntKind.u64.wrap (i : Int) := wrapU_n (by omega)
    have eh := has_i ⟨c, by omega⟩ ⟨i, by omega⟩
    have e2 : Go.bits .andNot .i64 (c : Int) (shl .i64 1 (IntKind.u64.wrap (i : Int))) = (dropN c i : Nat) := drop_i ⟨c, by omega⟩ ⟨i, by omega⟩
    have hd : dropN c i < 2 ^ n := Nat.lt_of_le_of_lt (dropN_le c i) hc
    have c3 : (0 : Int) ≤ ((dropN c i : Nat) : Int) := by omega
    have c4 : ((dropN c i : Nat) : Int) < (((List.range (2 ^ n)).map isV).length : Int) := by rw [List.length_map, List.length_range]; omega
    have er := rdOf_map isV (2 ^ n) (dropN c i) hd
    have hw : wrap64 ((i : Int) + 1) = ((i + 1 : Nat) : Int) := by rw [wr (by omega) (by omega)]; rfl
    rw [List.range'_succ, List.all_cons] at h
    have ihn := ih (i + 1) (by omega)
    refine Ev.step (f := fun k => spec_l01From.j2 k (n : Int) ((List.range (2 ^ n)).map isV) out (c : Int) true (i : Int) true) (fun k => ?_) ?_
    · simp only [spec_l01From.l1, if_pos c1]
    cases hb : c.testBit i with
    | false =>
      have c5 : ¬ (Go.bits .and .i64 (shr .i64 (c : Int) (IntKind.u64.wrap (i : Int))) 1 = 1) := of_decide_eq_false (eh.trans hb)
      refine Ev.step (f := fun k => spec_l01From.l1 k (n : Int) ((List.range (2 ^ n)).map isV) out (c : Int) true ((i + 1 : Nat) : Int)) (fun k => ?_) ?_
      · simp only [spec_l01From.j2, if_true, if_pos c2, if_neg c5, hw]
      · rw [hb, Bool.false_and, Bool.not_false, Bool.true_and] at h
        exact ihn h
    | true =>
      have c5 : (Go.bits .and .i64 (shr .i64 (c : Int) (IntKind.u64.wrap (i : Int))) 1 = 1) := of_decide_eq_true (eh.trans hb)
      cases hv : isV (dropN c i) with
      | true =>
        rw [hv] at er
        refine Ev.step (f := fun k => spec_l01From.l1 k (n : Int) ((List.range (2 ^ n)).map isV) out (c : Int) false ((i + 1 : Nat) : Int)) (fun k => ?_) ?_
        · simp only [spec_l01From.j2, if_true, if_pos c2, if_pos c5, e2, if_pos c3, if_pos c4, er, hw]
        · rw [hb, hv, Bool.true_and, Bool.not_true, Bool.false_and] at h
          exact from_end n out c false _ y (Or.inr rfl) h
      | false =>
        rw [hv] at er
        refine Ev.step (f := fun k => spec_l01From.l1 k (n : Int) ((List.range (2 ^ n)).map isV) out (c : Int) true ((i + 1 : Nat) : Int)) (fun k => ?_) ?_
        · simp only [spec_l01From.j2, if_true, if_pos c2, if_pos c5, e2, if_pos c3, if_pos c4, er, Bool.false_eq_true, if_false, hw]
        · rw [hb, hv, Bool.and_false, Bool.not_false, Bool.true_and] at h
          exact ihn h
theorem spec_l01From_ev (isV : Nat → Bool) (n : Nat) (hn : n ≤ 7) : Ev (fun k => spec_l01From.f k (n : Int) ((List.range (2 ^ n)).map isV)) ((n : Int), sortL (outF (leastB n isV) (2 ^ n))) := by
  have hp : 2 ^ n ≤ 128 := pow_le7 ⟨n, by omega⟩
  have hL : ((List.range (2 ^ n)).map isV).length = 2 ^ n := by rw [List.length_map, List.length_range]
  have key : ∀ d c : Nat, c + d = 2 ^ n → Ev (fun k => spec_l01From.l0 k (n : Int) ((List.range (2 ^ n)).map isV) (outF (leastB n isV) c) (c : Int)) ((n : Int), sortL (outF (leastB n isV) (2 ^ n))) := by
    intro d
    induction d with
    | zero =>
      intro c hc
      rw [show c = 2 ^ n by omega]
      have hl := outF_len (leastB n isV) (2 ^ n)
      have c1 : ¬ ((2 ^ n : Nat) : Int) < (((List.range (2 ^ n)).map isV).length : Int) := by rw [hL]; omega
      refine Ev.step (f := fun k => (spec_l01Sorted.f k (outF (leastB n isV) (2 ^ n))).bind fun y => some ((n : Int), y)) (fun k => ?_) (Ev.bind (spec_l01Sorted_ev _ (by omega) (fun g hg => Nat.le_trans (outF_mem _ _ g hg) (by decide))) (Ev.now _))
      simp only [spec_l01From.l0, if_neg c1]
    | succ d ih =>
      intro c hc
      have hlt : c < 2 ^ n := by omega
      have hl := outF_len (leastB n isV) c
      have c1 : (c : Int) < (((List.range (2 ^ n)).map isV).length : Int) := by rw [hL]; omega
      have c2 : (0 : Int) ≤ (c : Int) := by omega
      have c3 : (outF (leastB n isV) c).length < 5864062014805 := by omega
      have hw : wrap64 ((c : Int) + 1) = ((c + 1 : Nat) : Int) := by rw [wr (by omega) (by omega)]; rfl
      have er := rdOf_map isV (2 ^ n) c hlt
      have ihn := ih (c + 1) (by omega)
      rw [outF_succ] at ihn
      refine Ev.step (f := fun k => spec_l01From.l1 k (n : Int) ((List.range (2 ^ n)).map isV) (outF (leastB n isV) c) (c : Int) (isV c) 0) (fun k => ?_) ?_
      · simp only [spec_l01From.l0, if_pos c1, if_pos c2, er]
      · have hE : Ev (fun k => fromEnd n isV (outF (leastB n isV) c) c (leastB n isV c) k) ((n : Int), sortL (outF (leastB n isV) (2 ^ n))) := by
          unfold fromEnd
          simp only [if_pos c3, hw]
          cases hv : leastB n isV c with
          | true =>
            rw [hv, if_pos rfl] at ihn
            simp only [if_true]
            exact Ev.bind (spec_l01Of_ev (by omega)) ihn
          | false =>
            rw [hv, if_neg (by decide)] at ihn
            simp only [Bool.false_eq_true, if_false]
            exact ihn
        unfold leastB at hE
        cases hv : isV c with
        | true =>
          rw [hv, Bool.true_and] at hE
          exact from_l1 n hn c hlt _ _ n 0 (by omega) hE
        | false =>
          rw [hv, Bool.false_and] at hE
          exact from_end n _ c false 0 _ (Or.inr rfl) hE
  exact key (2 ^ n) 0 (by omega)

end Go.Proofs.Ytenmlpngnpjpjaa.P

namespace Go.Proofs.Ytenmlpngnpjpjaa.P
open Go.RowKit Go.Proofs.YtenmlpngnpjpjaaW.PrintWords Go.Proofs.YtenmlpngnpjpjaaW.PrintLast Go.Proofs.YtenmlpngnpjpjaaW.PrintMore
attribute [local go_sem] max2_int min2_int max_two min_two max_three min_three max_four min_four
set_option linter.unusedVariables false
set_option linter.unusedSimpArgs false

theorem wsucc (c : Nat) (h : c ≤ 1000) : wrap64 ((c : Int) + 1) = ((c + 1 : Nat) : Int) := by rw [wr (by omega) (by omega)]; rfl
theorem wadd {x y : Int} (h1 : 0 ≤ x ∧ x ≤ 100000) (h2 : 0 ≤ y ∧ y ≤ 1000) : wrap64 (x + y) = x + y := wr (by omega) (by omega)
/-- The weights of c's holders below i. -/
def sumP (ws : List Int) (c : Nat) : Nat → Int
  | 0 => 0
  | i + 1 => if c.testBit i = true then sumP ws c i + rd ws (i : Int) else sumP ws c i
def sumL (ws gr : List Int) : Int := gr.foldl (fun s x => s + rd ws x) 0
/-- The holders of a set below i. -/
def memTo (c i : Nat) : List Int := ((List.range i).filter fun h => c.testBit h).map fun h : Nat => (h : Int)
theorem memTo_all : ∀ n : Fin 8, ∀ c : Fin 128, c.val < 2 ^ n.val → membersN c.val = memTo c.val n.val := by decide +kernel
theorem memTo_succ (c i : Nat) : memTo c (i + 1) = if c.testBit i = true then memTo c i ++ [(i : Int)] else memTo c i := by
  unfold memTo
  rw [List.range_succ, List.filter_append, List.map_append]
  cases h : c.testBit i with
  | true => rw [if_pos rfl, List.filter_cons_of_pos (by exact h)]; rfl
  | false => rw [if_neg (by decide), List.filter_cons_of_neg (by rw [h]; decide)]; simp
theorem memTo_mem (c i : Nat) : ∀ x ∈ memTo c i, 0 ≤ x ∧ x < (i : Int) := fun x hx => by
  obtain ⟨j, hj, rfl⟩ := List.mem_map.1 hx
  have := List.mem_range.1 (List.mem_filter.1 hj).1
  omega
theorem sum_same (ws : List Int) (c : Nat) : ∀ i, sumL ws (memTo c i) = sumP ws c i
  | 0 => rfl
  | i + 1 => by
    rw [memTo_succ]
    unfold sumP
    split
    · unfold sumL
      rw [List.foldl_append]
      show List.foldl _ 0 (memTo c i) + rd ws (i : Int) = _
      rw [← sum_same ws c i]
      rfl
    · exact sum_same ws c i
theorem rd_in {ws : List Int} (hw : ∀ x ∈ ws, 0 ≤ x ∧ x ≤ 1000) (i : Nat) (hi : i < ws.length) : 0 ≤ rd ws (i : Int) ∧ rd ws (i : Int) ≤ 1000 := by
  rw [rd_nat ws i hi]
  exact hw _ (List.getElem_mem ..)
theorem sumP_in {ws : List Int} (hw : ∀ x ∈ ws, 0 ≤ x ∧ x ≤ 1000) (c : Nat) : ∀ i, i ≤ ws.length → 0 ≤ sumP ws c i ∧ sumP ws c i ≤ 1000 * i
  | 0, _ => by simp [sumP]
  | i + 1, h => by
    have h1 := sumP_in hw c i (by omega)
    have h2 := rd_in hw i (by omega)
    unfold sumP
    split <;> omega
def weiV (ws : List Int) (quota : Int) (c : Nat) : Bool := decide (sumP ws c ws.length ≥ quota)
def famRes (n : Nat) (isV : Nat → Bool) : List (List Int) := sortL (outF (leastB n isV) (2 ^ n))
theorem spec_l01Weighted_ev (ws : List Int) (quota : Int) (hl : ws.length ≤ 7) (hw : ∀ x ∈ ws, 0 ≤ x ∧ x ≤ 1000) : Ev (fun k => spec_l01Weighted.f k ws quota) ((ws.length : Int), famRes ws.length (weiV ws quota)) := by
  have hp : 2 ^ ws.length ≤ 128 := pow_le7 ⟨ws.length, by omega⟩
  have es : shl .i64 1 (IntKind.u64.wrap (ws.length : Int)) = ((2 ^ ws.length : Nat) : Int) := shl_n ⟨ws.length, by omega⟩
  have c0 : (0 : Int) ≤ IntKind.u64.wrap (ws.length : Int) := wrapU_n hl
  have key : ∀ d c : Nat, c + d = 2 ^ ws.length → Ev (fun k => spec_l01Weighted.l0 k ws quota ((List.range c).map (weiV ws quota)) (c : Int)) ((ws.length : Int), famRes ws.length (weiV ws quota)) := by
    intro d
    induction d with
    | zero =>
      intro c hc
      rw [show c = 2 ^ ws.length by omega]
      have c1 : ¬ ((2 ^ ws.length : Nat) : Int) < ((2 ^ ws.length : Nat) : Int) := by omega
      refine Ev.step (f := fun k => (spec_l01From.f k (ws.length : Int) ((List.range (2 ^ ws.length)).map (weiV ws quota))).bind fun bt => some (bt.1, bt.2)) (fun k => ?_) (Ev.bind (spec_l01From_ev (weiV ws quota) ws.length hl) (Ev.now _))
      simp only [spec_l01Weighted.l0, if_pos c0, es, if_neg c1]
    | succ d ih =>
      intro c hc
      have c1 : (c : Int) < ((2 ^ ws.length : Nat) : Int) := by omega
      have ihn := ih (c + 1) (by omega)
      rw [List.range_succ, List.map_append] at ihn
      have c2 : ((List.range c).map (weiV ws quota)).length < 140737488355328 := by rw [List.length_map, List.length_range]; omega
      have lc : c ≤ 1000 := by omega
      have key1 : ∀ d i : Nat, i + d = ws.length → Ev (fun k => spec_l01Weighted.l1 k ws quota ((List.range c).map (weiV ws quota)) (c : Int) (sumP ws c i) (i : Int)) ((ws.length : Int), famRes ws.length (weiV ws quota)) := by
        intro d
        induction d with
        | zero =>
          intro i hi
          have ei : i = ws.length := by omega
          subst ei
          have c3 : ¬ (ws.length : Int) < (ws.length : Int) := by omega
          refine Ev.step (f := fun k => spec_l01Weighted.l0 k ws quota ((List.range c).map (weiV ws quota) ++ [decide (sumP ws c ws.length ≥ quota)]) ((c + 1 : Nat) : Int)) (fun k => ?_) ihn
          simp only [spec_l01Weighted.l1, if_neg c3, if_pos c2, wsucc c lc]
        | succ d ih1 =>
          intro i hi
          have c3 : (i : Int) < (ws.length : Int) := by omega
          have c4 : (0 : Int) ≤ IntKind.u64.wrap (i : Int) := wrapU_n (by omega)
          have c5 : (0 : Int) ≤ (i : Int) := by omega
          have eh := has_i ⟨c, by omega⟩ ⟨i, by omega⟩
          have li : i ≤ 1000 := by omega
          have b1 := sumP_in hw c i (by omega)
          have b2 := rd_in hw i (by omega)
          have ls : 0 ≤ sumP ws c i ∧ sumP ws c i ≤ 100000 := by omega
          have n1 := ih1 (i + 1) (by omega)
          cases hb : c.testBit i with
          | true =>
            have c6 : (Go.bits .and .i64 (shr .i64 (c : Int) (IntKind.u64.wrap (i : Int))) 1 = 1) := of_decide_eq_true (eh.trans hb)
            rw [show sumP ws c (i + 1) = sumP ws c i + rd ws (i : Int) by simp only [sumP, hb, if_true]] at n1
            refine Ev.step (f := fun k => spec_l01Weighted.l1 k ws quota ((List.range c).map (weiV ws quota)) (c : Int) (sumP ws c i + rd ws (i : Int)) ((i + 1 : Nat) : Int)) (fun k => ?_) n1
            simp only [spec_l01Weighted.l1, if_pos c3, if_pos c4, if_pos c6, if_pos c5, wadd ls b2, wsucc i li]
          | false =>
            have c6 : ¬ (Go.bits .and .i64 (shr .i64 (c : Int) (IntKind.u64.wrap (i : Int))) 1 = 1) := of_decide_eq_false (eh.trans hb)
            rw [show sumP ws c (i + 1) = sumP ws c i by simp only [sumP, hb, Bool.false_eq_true, if_false]] at n1
            refine Ev.step (f := fun k => spec_l01Weighted.l1 k ws quota ((List.range c).map (weiV ws quota)) (c : Int) (sumP ws c i) ((i + 1 : Nat) : Int)) (fun k => ?_) n1
            simp only [spec_l01Weighted.l1, if_pos c3, if_pos c4, if_neg c6, wsucc i li]
      refine Ev.step (f := fun k => spec_l01Weighted.l1 k ws quota ((List.range c).map (weiV ws quota)) (c : Int) 0 0) (fun k => ?_) (key1 ws.length 0 (by omega))
      simp only [spec_l01Weighted.l0, if_pos c0, es, if_pos c1]
  exact key (2 ^ ws.length) 0 (by omega)
theorem weiS_ev (ws : List Int) (hw : ∀ x ∈ ws, 0 ≤ x ∧ x ≤ 1000) (gr : List Int) (hg : ∀ x ∈ gr, 0 ≤ x ∧ x < (ws.length : Int)) (hl : gr.length ≤ 7) : ∀ d i : Nat, i + d = gr.length → (0 ≤ sumL ws (gr.take i) ∧ sumL ws (gr.take i) ≤ 1000 * i) → Ev (fun k => weiS k gr ws (sumL ws (gr.take i)) (i : Int)) (sumL ws gr) := by
  intro d
  induction d with
  | zero =>
    intro i hi _
    rw [List.take_of_length_le (by omega)]
    have c1 : ¬ (i : Int) < (gr.length : Int) := by omega
    refine Ev.step (f := fun _ => some (sumL ws gr)) (fun k => ?_) (Ev.now _)
    simp only [weiS, if_neg c1]
  | succ d ih =>
    intro i hi hb
    have hlt : i < gr.length := by omega
    have c1 : (i : Int) < (gr.length : Int) := by omega
    have c2 : (0 : Int) ≤ (i : Int) := by omega
    have er := rd_nat gr i hlt
    have hx := hg _ (List.getElem_mem hlt)
    rw [← er] at hx
    have hx2 := rd_in hw (rd gr (i : Int)).toNat (by omega)
    rw [show (((rd gr (i : Int)).toNat : Nat) : Int) = rd gr (i : Int) by omega] at hx2
    have es : sumL ws (gr.take (i + 1)) = sumL ws (gr.take i) + rd ws (rd gr (i : Int)) := by
      unfold sumL
      rw [List.take_succ_eq_append_getElem hlt, List.foldl_append, er]
      rfl
    have li : i ≤ 1000 := by omega
    have ls : 0 ≤ sumL ws (gr.take i) ∧ sumL ws (gr.take i) ≤ 100000 := by omega
    have n1 := ih (i + 1) (by omega) (by rw [es]; omega)
    rw [es] at n1
    refine Ev.step (f := fun k => weiS k gr ws (sumL ws (gr.take i) + rd ws (rd gr (i : Int))) ((i + 1 : Nat) : Int)) (fun k => ?_) n1
    simp only [weiS, if_pos c1, if_pos c2, if_pos hx.1, if_pos hx.2, wadd ls hx2, wsucc i li]
end Go.Proofs.Ytenmlpngnpjpjaa.P

namespace Go.Proofs.Ytenmlpngnpjpjaa.P
open Go.RowKit Go.Proofs.YtenmlpngnpjpjaaW.PrintWords Go.Proofs.YtenmlpngnpjpjaaW.PrintLast Go.Proofs.YtenmlpngnpjpjaaW.PrintMore
attribute [local go_sem] max2_int min2_int max_two min_two max_three min_three max_four min_four
set_option linter.unusedVariables false
set_option linter.unusedSimpArgs false

theorem weiIs_ev (ws : List Int) (quota : Int) (hl : ws.length ≤ 7) (hw : ∀ x ∈ ws, 0 ≤ x ∧ x ≤ 1000) (c : Nat) (hc : c < 2 ^ ws.length) : Ev (fun k => weiIs ws quota k (c : Int)) (weiV ws quota c) := by
  have hp : 2 ^ ws.length ≤ 128 := pow_le7 ⟨ws.length, by omega⟩
  have em : membersN c = memTo c ws.length := memTo_all ⟨ws.length, by omega⟩ ⟨c, by omega⟩ hc
  have hk := weiS_ev ws hw (membersN c) (by rw [em]; exact memTo_mem c _) (membersN_len c) (membersN c).length 0 (by omega) (by simp [sumL])
  have hs : sumL ws (membersN c) = sumP ws c ws.length := by rw [em]; exact sum_same ws c _
  rw [hs] at hk
  unfold weiIs weiV
  exact Ev.bind (impl_crowd_group_ev (by omega)) (Ev.bind hk (Ev.now _))
theorem fam_ev {isF : Nat → Int → Option Bool} {isV : Nat → Bool} (h : Nat) (hh : h ≤ 7) (hF : ∀ c : Nat, c < 2 ^ h → Ev (fun k => isF k (c : Int)) (isV c)) : Ev (fun k => crB.f (famIs isF (h : Int)) k (h : Int)) (famRes h isV) :=
  crB_ev h hh (fun c hc => famIs_ev h hh hF c hc)
theorem sortL_len (gs : List (List Int)) : (sortL gs).length = gs.length := (List.mergeSort_perm ..).length_eq
theorem sortL_mem (gs : List (List Int)) : ∀ g ∈ sortL gs, g ∈ gs := fun g hg => (List.mergeSort_perm ..).mem_iff.1 hg
theorem famRes_size (n : Nat) (hn : n ≤ 7) (isV : Nat → Bool) : (famRes n isV).length ≤ 128 ∧ ∀ g ∈ famRes n isV, g.length ≤ 7 := by
  have hp : 2 ^ n ≤ 128 := pow_le7 ⟨n, by omega⟩
  unfold famRes
  refine ⟨?_, fun g hg => outF_mem _ _ g (sortL_mem _ g hg)⟩
  rw [sortL_len]
  exact Nat.le_trans (outF_len _ _) hp
theorem allLen_small : ∀ (gs : List (List Int)), (∀ g ∈ gs, g.length ≤ 7) → allLen gs ≤ 7 * gs.length
  | [], _ => by simp [allLen]
  | g :: gs, h => by
    have h1 := allLen_small gs (fun x hx => h x (List.mem_cons_of_mem _ hx))
    have h2 := h g (List.mem_cons_self ..)
    unfold allLen at h1 ⊢
    rw [List.map_cons, List.sum_cons, List.length_cons]
    omega
def weiB (ws : List Int) (quota : Int) : Int × List (List Int) × Int := if (1 ≤ (ws.length : Int) ∧ (ws.length : Int) ≤ 7) ∧ (0 ≤ quota ∧ quota ≤ 7001) ∧ ∀ x ∈ ws, 0 ≤ x ∧ x ≤ 1000 then ((ws.length : Int), famRes ws.length (weiV ws quota), 0) else (0, [], 2)
theorem weiP_eq (x : Int) : weiP x = some (!decide (0 ≤ x ∧ x ≤ 1000)) := by
  unfold weiP
  rw [impl_within_eq]
  rfl
theorem any_bad (ws : List Int) : (ws.any fun x => !decide (0 ≤ x ∧ x ≤ 1000)) = !decide (∀ x ∈ ws, 0 ≤ x ∧ x ≤ 1000) := by
  rw [Bool.eq_iff_iff, List.any_eq_true]
  constructor
  · rintro ⟨x, hx, hb⟩
    have hb2 : ¬ (0 ≤ x ∧ x ≤ 1000) := fun h => by rw [decide_eq_true h] at hb; exact absurd hb (by decide)
    rw [decide_eq_false (fun h => hb2 (h x hx))]
    rfl
  · intro h
    have h2 : ¬ ∀ x ∈ ws, 0 ≤ x ∧ x ≤ 1000 := by simpa using h
    have h3 : ∃ x, x ∈ ws ∧ ¬ (0 ≤ x ∧ x ≤ 1000) := Classical.byContradiction fun hn => h2 fun x hx => Classical.byContradiction fun hx2 => hn ⟨x, hx, hx2⟩
    obtain ⟨x, hx, hx2⟩ := h3
    exact ⟨x, hx, by rw [decide_eq_false hx2]; rfl⟩
theorem impl_WeightedFamily_ev (ws : List Int) (quota : Int) (hl : ws.length ≤ 4611686018427387904) : Ev (fun k => impl_WeightedFamily.f k ws quota) (weiB ws quota) := by
  unfold impl_WeightedFamily.f weiB
  simp only [impl_within_eq, Option.bind_some]
  by_cases c1 : 1 ≤ (ws.length : Int) ∧ (ws.length : Int) ≤ 7
  · simp only [decide_eq_true c1, if_true]
    refine Ev.bind (hasI_ev weiP _ ws hl weiP_eq) ?_
    rw [any_bad]
    by_cases c3 : ∀ x ∈ ws, 0 ≤ x ∧ x ≤ 1000
    · simp only [decide_eq_true c3, Bool.not_true, Bool.false_eq_true, if_false]
      by_cases c2 : 0 ≤ quota ∧ quota ≤ 7001
      · simp only [decide_eq_true c2, if_true, if_pos (And.intro c1 (And.intro c2 c3))]
        exact Ev.bind (fam_ev ws.length (by omega) (fun c hc => weiIs_ev ws quota (by omega) c3 c hc)) (Ev.now _)
      · simp only [decide_eq_false c2, Bool.false_eq_true, if_false, if_neg (fun q : _ ∧ _ ∧ _ => c2 q.2.1)]
        exact Ev.now _
    · simp only [decide_eq_false c3, Bool.not_false, if_true, if_neg (fun q : _ ∧ _ ∧ _ => c3 q.2.2)]
      exact Ev.now _
  · simp only [decide_eq_false c1, Bool.false_eq_true, if_false, if_neg (fun q : _ ∧ _ ∧ _ => c1 q.1)]
    exact Ev.now _
theorem spec_WeightedFamily_ev (ws : List Int) (quota : Int) : Ev (fun k => spec_WeightedFamily.f k ws quota) (weiB ws quota) := by
  unfold spec_WeightedFamily.f weiB
  simp only [spec_l00In_eq, Option.bind_some]
  have bad : Ev (fun k => spec_WeightedFamily.j0 k ws quota true) (0, [], 2) := Ev.step (f := fun _ => some (0, [], 2)) (fun k => by simp only [spec_WeightedFamily.j0, if_true]) (Ev.now _)
  by_cases c1 : 1 ≤ (ws.length : Int) ∧ (ws.length : Int) ≤ 7
  · simp only [decide_eq_true c1, if_true]
    by_cases c2 : 0 ≤ quota ∧ quota ≤ 7001
    · simp only [decide_eq_true c2, Bool.not_true]
      have hl : ws.length ≤ 7 := by omega
      have key : ∀ d i : Nat, i + d = ws.length → Ev (fun k => spec_WeightedFamily.l0 k ws quota (i : Int)) (if ∀ x ∈ ws.drop i, 0 ≤ x ∧ x ≤ 1000 then (if ∀ x ∈ ws, 0 ≤ x ∧ x ≤ 1000 then ((ws.length : Int), famRes ws.length (weiV ws quota), 0) else (0, [], 2)) else (0, [], 2)) ∨ ¬ ∀ x ∈ ws.take i, 0 ≤ x ∧ x ≤ 1000 := by
        intro d
        induction d with
        | zero =>
          intro i hi
          have ei : i = ws.length := by omega
          subst ei
          by_cases c4 : ∀ x ∈ ws, 0 ≤ x ∧ x ≤ 1000
          · left
            have c3 : ¬ (ws.length : Int) < (ws.length : Int) := by omega
            rw [List.drop_length, if_pos (fun x hx => absurd hx (by simp)), if_pos c4]
            refine Ev.step (f := fun k => (spec_l01Weighted.f k ws quota).bind fun bt => some (bt.1, bt.2, 0)) (fun k => ?_) (Ev.bind (spec_l01Weighted_ev ws quota hl c4) (Ev.now _))
            simp only [spec_WeightedFamily.l0, if_neg c3]
          · right
            rw [List.take_length]
            exact c4
        | succ d ih =>
          intro i hi
          by_cases c5 : ∀ x ∈ ws.take i, 0 ≤ x ∧ x ≤ 1000
          · left
            have hlt : i < ws.length := by omega
            have c3 : (i : Int) < (ws.length : Int) := by omega
            have c4 : (0 : Int) ≤ (i : Int) := by omega
            have er := rd_nat ws i hlt
            have ed : ws.drop i = ws[i] :: ws.drop (i + 1) := List.drop_eq_getElem_cons hlt
            by_cases c6 : 0 ≤ ws[i] ∧ ws[i] ≤ 1000
            · have n1 := (ih (i + 1) (by omega)).resolve_right (fun hn => hn fun x hx => by
                rw [List.take_succ_eq_append_getElem hlt] at hx
                rcases List.mem_append.1 hx with h | h
                · exact c5 x h
                · rw [List.mem_singleton.1 h]; exact c6)
              rw [ed]
              have c7 : (∀ x ∈ ws[i] :: ws.drop (i + 1), 0 ≤ x ∧ x ≤ 1000) ↔ ∀ x ∈ ws.drop (i + 1), 0 ≤ x ∧ x ≤ 1000 := by
                rw [List.forall_mem_cons]
                exact ⟨fun h => h.2, fun h => ⟨c6, h⟩⟩
              simp only [c7]
              refine Ev.step (f := fun k => spec_WeightedFamily.l0 k ws quota ((i + 1 : Nat) : Int)) (fun k => ?_) n1
              simp only [spec_WeightedFamily.l0, if_pos c3, if_pos c4, er, spec_l00In_eq, Option.bind_some, decide_eq_true c6, if_true, wsucc i (by omega)]
            · rw [ed, if_neg (fun h => c6 (h _ (List.mem_cons_self ..)))]
              refine Ev.step (f := fun _ => some (0, [], 2)) (fun k => ?_) (Ev.now _)
              simp only [spec_WeightedFamily.l0, if_pos c3, if_pos c4, er, spec_l00In_eq, Option.bind_some, decide_eq_false c6, Bool.false_eq_true, if_false]
          · exact Or.inr c5
      have h0 := (key ws.length 0 (by omega)).resolve_right (fun hn => hn (fun x hx => absurd hx (by simp)))
      rw [List.drop_zero] at h0
      have h1 : Ev (fun k => spec_WeightedFamily.j0 k ws quota false) (if ∀ x ∈ ws, 0 ≤ x ∧ x ≤ 1000 then ((ws.length : Int), famRes ws.length (weiV ws quota), 0) else (0, [], 2)) := by
        refine Ev.step (f := fun k => spec_WeightedFamily.l0 k ws quota 0) (fun k => ?_) ?_
        · simp only [spec_WeightedFamily.j0, Bool.false_eq_true, if_false]
        · by_cases c8 : ∀ x ∈ ws, 0 ≤ x ∧ x ≤ 1000
          · rw [if_pos c8] at h0 ⊢
            rw [if_pos c8] at h0
            exact h0
          · rw [if_neg c8] at h0 ⊢
            exact h0
      have e9 : ((1 ≤ (ws.length : Int) ∧ (ws.length : Int) ≤ 7) ∧ (0 ≤ quota ∧ quota ≤ 7001) ∧ ∀ x ∈ ws, 0 ≤ x ∧ x ≤ 1000) ↔ ∀ x ∈ ws, 0 ≤ x ∧ x ≤ 1000 := ⟨fun h => h.2.2, fun h => ⟨c1, c2, h⟩⟩
      simp only [e9]
      exact h1
    · simp only [decide_eq_false c2, if_neg (fun q : _ ∧ _ ∧ _ => c2 q.2.1), Bool.not_false]
      exact bad
  · simp only [decide_eq_false c1, Bool.false_eq_true, if_false, if_neg (fun q : _ ∧ _ ∧ _ => c1 q.1)]
    exact bad
theorem weiB_size (ws : List Int) (quota : Int) : (weiB ws quota).2.1.length ≤ 128 ∧ ∀ g ∈ (weiB ws quota).2.1, g.length ≤ 7 := by
  unfold weiB
  split
  · rename_i h
    exact famRes_size _ (by omega) _
  · simp

end Go.Proofs.Ytenmlpngnpjpjaa.P

/- For all weights and every quota the program's WeightedFamily and the reference's answer alike, the weights stay, and the result is memory of its own. -/
namespace Go.Proofs.Ytenmlpngnpjpjaa.Pure
open Go.RowKit Go.Proofs.Ytenmlpngnpjpjaa.P Go.Proofs.YtenmlpngnpjpjaaW.PrintWords Go.Proofs.YtenmlpngnpjpjaaW.PrintLast Go.Proofs.YtenmlpngnpjpjaaW.PrintMore
set_option linter.unusedVariables false
set_option linter.unusedSimpArgs false

theorem FnExactWeightedFamily : laws_FnExactWeightedFamily.Pure := by
  intro ws quota hx _
  by_cases h : (1048576 : Int) < (ws.length : Int)
  · exact Or.inl ⟨0, decide_eq_true h, decide_eq_true (by omega)⟩
  · have hl : ws.length ≤ 1048576 := by omega
    have e1 := spec_WeightedFamily_ev ws quota
    have e2 := impl_WeightedFamily_ev ws quota (by omega)
    obtain ⟨z1, z2⟩ := weiB_size ws quota
    obtain ⟨r1, r2, r3, er⟩ : ∃ r1 r2 r3, weiB ws quota = (r1, r2, r3) := ⟨_, _, _, rfl⟩
    rw [er] at e1 e2 z1 z2
    replace z1 : r2.length ≤ 128 := z1
    replace z2 : ∀ g ∈ r2, g.length ≤ 7 := z2
    have z3 := allLen_small r2 z2
    obtain ⟨k, a1, a2, a3, a4, a5, a6, a7, a8⟩ := From.now (From.and e1 (From.and e2 (From.and (eqFamily_same r1 r2 (by omega) (fun g hg => Nat.le_trans (z2 g hg) (by decide))) (From.and (markFamily_ev r1 r2 1 (by omega) (by omega) (by omega)) (From.and (heldFamily_ev r1 r2 1 (by omega) (by omega) (by omega)) (From.and (toInt64S_ev ws hl) (From.and (eqInt64S_same ws hl) (markInt64S_ev ws 1 (by omega) (by omega)))))))))
    exact Or.inr ⟨k, r1, r2, r3, _, _, _, _, decide_eq_false h, decide_eq_false (by omega), a6, a1, a6, a2, a3, a6, a7, a8, decide_eq_false (by omega), a3, a4, a5, decide_eq_false (by omega), a6, a2, a3, a5, decide_eq_false (by omega)⟩

end Go.Proofs.Ytenmlpngnpjpjaa.Pure

/- The row of the law FnExactWeightedFamily: whatever its arguments, it answers true, and they read as before. No condition. -/
namespace Go.Proofs.Ytenmlpngnpjpjaa.fnExactWeightedFamily
open Go.ChangeShapes Go.WideShapes Go.ChangeAt Go.RowKit Go.Proofs.Ytenmlpngnpjpjaa.P Go.Proofs.YtenmlpngnpjpjaaW.PrintWords Go.Proofs.YtenmlpngnpjpjaaW.PrintLast Go.Proofs.YtenmlpngnpjpjaaW.PrintMore
open Go.ChangeMaps (open_string shut_string)
set_option linter.unusedVariables false
theorem own : ownKnob Try.prog.godebug = none := by kernel_rfl
theorem laidOut : laidOutB Try.prog = true := by kernel_rfl
set_option maxRecDepth 100000 in
theorem lifted (os : Os) (started : os.Started) (H : Type) (enc : TypeId × Value → H) :
    ReturnsInHanded {} Try.checked os 7 .any (Rows.fnExactWeightedFamilySpec.pre6 enc Try.prog Try.f7 Rows.fnExactWeightedFamilyRow.domain false) (Rows.fnExactWeightedFamilySpec.post enc Try.prog Try.f7 false true false false) := by
  refine returnsInHanded_of_change_sized (C := Try.checked) own started (by kernel_rfl) Try.func7
    (ChangeSpec.witness6 (enc := enc) (C := Try.checked) false ⟨#[], #[.slice none 0 0, .int .i64 0], []⟩ 8 (by kernel_rfl) (by kernel_rfl) (by kernel_rfl) (by kernel_rfl)) ?_
  intro W base args ds gs before hval0 hW hcnd hsz0 _
  have hval : ∀ (j : Nat) t v, Try.f7.params[j]? = some t → args[j]? = some v → Value.okWide Try.prog W .any base t v := hval0
  have hW' := hW
  obtain ⟨p, q, hA0, hV, rfl, hfz, hnd⟩ := hW
  have hA : DataW.TrodAll enc Try.prog W 0 (fun _ => true) true Try.f7.params.toList args.toList ds p := hA0
  rw [Try.params7] at hA hval
  obtain ⟨v0, vs0, d0, ds0, p0, q0, hargs, rfl, rfl, h0, r0⟩ := trodAll_cons hA
  obtain ⟨v1, vs1, d1, ds1, p1, q1, rfl, rfl, rfl, h1, r1⟩ := trodAll_cons r0
  obtain ⟨rfl, rfl, rfl⟩ := trodAll_nil r1
  obtain rfl : args = #[v0, v1] := by cases args; simp_all
  obtain ⟨rfl, rfl⟩ := trodVars_none hV
  have k0 := h0
  have lt0 : ∀ x ∈ p0, x.block < W.heap.size := by obtain ⟨m, hm⟩ := k0; exact DataW.trod_lt m _ _ _ hm
  obtain ⟨a0, len0, cap0, rfl⟩ := okWide_slice Try.underlying32 (hval 0 32 v0 rfl rfl)
  obtain ⟨l0, ⟨A0, c0, e0, b0, g0⟩, wf0⟩ := OpensAt.any (opens_slice_any Try.underlying32 (by kernel_rfl) (fun n => opens_int n Try.underlying2)) h0
  simp [Value.cells] at e0
  obtain ⟨rfl, rfl, rfl⟩ := e0
  obtain ⟨a1, rfl, rfl, rfl, w1⟩ := open_int Try.underlying2 (hval 1 2 v1 rfl rfl) h1
  clear hA0 hval0 hsz0
  refine (P.laws_FnExactWeightedFamily.walk Pure.FnExactWeightedFamily l0 a1 _ _ W g0 b0 wf0 w1).mono fun e W' ⟨he, bel⟩ => ?_
  subst he
  exact ⟨_, rfl, _, _, _, [], _, [], hW', trodAll_mk1 (shut_bool Try.underlying4 _), (trodAll_cons_mk (Below.trod laidOut (by kernel_rfl) (of_decide_eq_true (by kernel_rfl)) k0 bel lt0) (trodAll_cons_mk (shut_int Try.underlying2 w1) trodAll_mk0)), rfl, bel.frame _, fun h => by cases h⟩
theorem over : Rows.fnExactWeightedFamilyRow.holds Try.pinned (OpenSpec.ofChange Rows.fnExactWeightedFamilySpec) :=
  OpenClaim.holds_of_wide 7 Try.f7 rfl rfl rfl rfl rfl rfl rfl ⟨rfl, rfl, rfl, rfl, rfl⟩ rfl rfl rfl rfl rfl (by kernel_rfl) Try.func7 (by kernel_rfl)
    (of_decide_eq_true (by kernel_rfl)) (by unfold Func.isWrapper; first | (rw [if_pos (by decide +kernel)]; kernel_rfl) | (rw [if_neg (by decide +kernel)]; exact ⟨rfl, rfl⟩))
    (fun os started H enc _ => lifted os started H enc)
theorem proved : Rows.FnExactWeightedFamilySaid := over
#print axioms proved
end Go.Proofs.Ytenmlpngnpjpjaa.fnExactWeightedFamily
namespace Go.Proofs.Ytenmlpngnpjpjaa
/-- The row, under a short name, for the claim. -/
theorem fnExactWeightedFamily_holds : Rows.FnExactWeightedFamilySaid := fnExactWeightedFamily.proved
end Go.Proofs.Ytenmlpngnpjpjaa
