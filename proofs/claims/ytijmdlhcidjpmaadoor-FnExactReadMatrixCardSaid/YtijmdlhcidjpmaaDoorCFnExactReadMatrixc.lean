/- For every text the program's ReadMatrix and the reference's read alike, and the result is memory of its own. This text: the theorem of the row, and part 3 of what it rests on. -/
import Derived.Test.YtijmdlhcidjpmaaDoorCFnExactReadMatrixb
import Derived.Below
import Derived.Carry
import Derived.ChangeOld
import Derived.Handed
import Derived.LaidMore
import Derived.LaidSub
import Derived.Lib.ItoaLen
import Derived.OpenShut
import Derived.ProofKit
import Derived.SevenTiedAt
import Derived.Shelf.Vars
import Derived.ShutString
import Derived.SizedLaws
import Derived.Stop.Joined
import Derived.Stop.LaidErr
import Derived.Stop.LaidTwo
import Derived.Test.YtijmdlhcidjpmaaDoorCards
import Derived.Test.YtijmdlhcidjpmaaDoorRows
import Derived.Test.YtijmdlhcidjpmaaDoorTie
import Derived.WalkKit
namespace Go.Proofs.YtijmdlhcidjpmaaDoor.P
open Go.RowKit Go.Proofs.YtijmdlhcidjpmaaDoorW.PrintWords Go.Proofs.YtijmdlhcidjpmaaDoorW.PrintLast Go.Proofs.YtijmdlhcidjpmaaDoorW.PrintMore
attribute [local go_sem] max2_int min2_int max_two min_two max_three min_three max_four min_four
set_option linter.unusedVariables false
set_option linter.unusedSimpArgs false
def wordsB (w : ByteArray) (l : List Int) : ByteArray := l.foldl (fun s n => s ++ ((⟨#[32]⟩ : ByteArray) ++ decS n)) w
theorem wordsB_take (w : ByteArray) (l : List Int) (i : Nat) (h : i < l.length) : wordsB w (l.take (i + 1)) = wordsB w (l.take i) ++ ((⟨#[32]⟩ : ByteArray) ++ decS (rd l (i : Int))) := by
 unfold wordsB
 rw [List.take_succ_eq_append_getElem h, List.foldl_append]
 simp [rd, h]
theorem wordsB_size (w : ByteArray) (l : List Int) (hl : ∀ x ∈ l, 0 ≤ x ∧ x < 100) : (wordsB w l).size ≤ w.size + 3 * l.length := by
 induction l generalizing w with
 | nil => simp [wordsB]
 | cons x l ih =>
  have h1 := ih (w ++ ((⟨#[32]⟩ : ByteArray) ++ decS x)) (fun y h => hl y (List.mem_cons_of_mem _ h))
  have h2 := decS_size (hl x (List.mem_cons_self ..)).1 (hl x (List.mem_cons_self ..)).2
  have h4 : (w ++ ((⟨#[32]⟩ : ByteArray) ++ decS x)).size = w.size + (1 + (decS x).size) := by simp only [ByteArray.size_append]; rfl
  show (wordsB (w ++ ((⟨#[32]⟩ : ByteArray) ++ decS x)) l).size ≤ _
  rw [List.length_cons]
  omega
theorem word_step {w : ByteArray} {l : List Int} (hw : w.size ≤ 1000000) (hn : l.length ≤ 1000000) (hl : ∀ x ∈ l, 0 ≤ x ∧ x < 100) (i : Nat) (hi : i < l.length) : (0 ≤ rd l (i : Int) ∧ rd l (i : Int) < 100) ∧ 1 + (decS (rd l (i : Int))).size ≤ 9223372036854775807 ∧ (wordsB w (l.take i)).size + ((⟨#[32]⟩ : ByteArray) ++ decS (rd l (i : Int))).size ≤ 9223372036854775807 := by
 have hx : 0 ≤ rd l (i : Int) ∧ rd l (i : Int) < 100 := by
  have := hl l[i] (List.getElem_mem hi)
  simpa [rd, hi] using this
 have h2 := decS_size hx.1 hx.2
 have h3 := wordsB_size w (l.take i) (fun x h => hl x (List.mem_of_mem_take h))
 have h5 : (l.take i).length ≤ 1000000 := by rw [List.length_take]; omega
 have h4 : ((⟨#[32]⟩ : ByteArray) ++ decS (rd l (i : Int))).size = 1 + (decS (rd l (i : Int))).size := by simp only [ByteArray.size_append]; rfl
 refine ⟨hx, by omega, by omega⟩
theorem impl_words_ev (w : ByteArray) (l : List Int) (hw : w.size ≤ 1000000) (hn : l.length ≤ 1000000) (hl : ∀ x ∈ l, 0 ≤ x ∧ x < 100) : Ev (fun k => impl_words.f k w l) (wordsB w l) := by
 unfold impl_words.f
 have key : ∀ d i : Nat, i + d = l.length → Ev (fun k => impl_words.l0 k (wordsB w (l.take i)) l (l.length : Int) (i : Int)) (wordsB w l) := by
  intro d
  induction d with
  | zero =>
   intro i hi
   rw [List.take_of_length_le (by omega)]
   refine Ev.step (f := fun _ => some (wordsB w l)) (fun k => ?_) (Ev.now _)
   simp only [impl_words.l0]
   rw [if_neg (by omega)]
  | succ d ih =>
   intro i hi
   have hlt : i < l.length := by omega
   have hn' := ih (i + 1) (by omega)
   rw [wordsB_take _ _ _ hlt] at hn'
   obtain ⟨hx, h1, h2⟩ := word_step hw hn hl i hlt
   refine Ev.step (f := fun k => impl_words.l0 k (wordsB w (l.take i) ++ ((⟨#[32]⟩ : ByteArray) ++ decS (rd l (i : Int)))) l (l.length : Int) ((i + 1 : Nat) : Int)) (fun k => ?_) hn'
   simp only [impl_words.l0]
   rw [if_pos (by omega), if_pos (by omega), if_pos (by omega), impl_decimal_eq hx.1 hx.2, wr (by omega) (by omega)]
   simp only [Option.bind_some]
   rw [if_pos h1, if_pos h2]
   rfl
 exact key l.length 0 (by omega)
def rowW : ByteArray := ⟨#[114, 111, 119]⟩
def nlW : ByteArray := ⟨#[10]⟩
def matTx (acc : ByteArray) (rows : List (List Int)) : ByteArray := rows.foldl (fun x r => x ++ (wordsB rowW r ++ nlW)) acc
theorem matTx_take (acc : ByteArray) (rows : List (List Int)) (i : Nat) (h : i < rows.length) : matTx acc (rows.take (i + 1)) = matTx acc (rows.take i) ++ (wordsB rowW (grp rows i) ++ nlW) := by
 unfold matTx
 rw [List.take_succ_eq_append_getElem h, List.foldl_append]
 simp [grp, h]
theorem matTx_size (acc : ByteArray) (rows : List (List Int)) (hr : ∀ r ∈ rows, r.length ≤ 12 ∧ ∀ x ∈ r, 0 ≤ x ∧ x < 100) : (matTx acc rows).size ≤ acc.size + rows.length * 40 := by
 induction rows generalizing acc with
 | nil => simp [matTx]
 | cons g gs ih =>
  have h1 := ih (acc ++ (wordsB rowW g ++ nlW)) (fun r h => hr r (List.mem_cons_of_mem _ h))
  have h3 := hr g (List.mem_cons_self ..)
  have h2 := wordsB_size rowW g h3.2
  have h5 : rowW.size = 3 := rfl
  have h4 : (acc ++ (wordsB rowW g ++ nlW)).size = acc.size + ((wordsB rowW g).size + 1) := by simp only [ByteArray.size_append]; rfl
  show (matTx (acc ++ (wordsB rowW g ++ nlW)) gs).size ≤ _
  rw [List.length_cons, Nat.succ_mul]
  omega
def matHead (p c : Int) : ByteArray := wordsB (⟨#[109, 97, 116, 114, 105, 120]⟩ : ByteArray) [p, c] ++ nlW
def matTextB (p c : Int) (rows : List (List Int)) : ByteArray := if validMB p c rows then matTx (matHead p c) rows else (⟨#[]⟩ : ByteArray)
theorem mat_facts {p c : Int} {rows : List (List Int)} (h : validMB p c rows = true) : (∀ x ∈ [p, c], 0 ≤ x ∧ x < 100) ∧ rows.length ≤ 20 ∧ ∀ r ∈ rows, r.length ≤ 12 ∧ ∀ x ∈ r, 0 ≤ x ∧ x < 100 := by
 obtain ⟨h1, h2, h3, h4⟩ := validMB_parts h
 refine ⟨fun x hx => ?_, h3, fun r hr => ?_⟩
 ·rcases List.mem_cons.mp hx with rfl | hx
  ·omega
  ·rcases List.mem_cons.mp hx with rfl | hx
   ·omega
   ·cases hx
 ·obtain ⟨i, hi, rfl⟩ := List.getElem_of_mem hr
  have h5 := h4 i hi
  have e : grp rows i = rows[i] := by simp [grp, hi]
  rw [e] at h5
  refine ⟨by omega, fun x hx => ?_⟩
  have := List.all_eq_true.mp h5.2 x hx
  simp only [decide_eq_true_eq] at this
  omega
theorem matHead_size {p c : Int} (h : ∀ x ∈ [p, c], 0 ≤ x ∧ x < 100) : (matHead p c).size ≤ 13 := by
 have h1 := wordsB_size (⟨#[109, 97, 116, 114, 105, 120]⟩ : ByteArray) [p, c] h
 have h2 : (matHead p c).size = (wordsB (⟨#[109, 97, 116, 114, 105, 120]⟩ : ByteArray) [p, c]).size + 1 := by unfold matHead; simp only [ByteArray.size_append]; rfl
 have h3 : (⟨#[109, 97, 116, 114, 105, 120]⟩ : ByteArray).size = 6 := rfl
 have h4 : [p, c].length = 2 := rfl
 omega
theorem mat_mid {p c : Int} {rows : List (List Int)} (h : validMB p c rows = true) (i : Nat) : (matTx (matHead p c) (rows.take i)).size ≤ 1000 := by
 obtain ⟨h1, h2, h3⟩ := mat_facts h
 have h4 := matTx_size (matHead p c) (rows.take i) (fun r hr => h3 r (List.mem_of_mem_take hr))
 have h5 := matHead_size h1
 have h6 : (rows.take i).length ≤ 20 := by rw [List.length_take]; omega
 omega
theorem mat_row {p c : Int} {rows : List (List Int)} (h : validMB p c rows = true) (i : Nat) (hi : i < rows.length) : (grp rows i).length ≤ 12 ∧ (∀ x ∈ grp rows i, 0 ≤ x ∧ x < 100) ∧ (wordsB rowW (grp rows i)).size ≤ 39 := by
 obtain ⟨h1, h2, h3⟩ := mat_facts h
 have e : grp rows i = rows[i] := by simp [grp, hi]
 have h4 := h3 rows[i] (List.getElem_mem hi)
 rw [← e] at h4
 have h5 := wordsB_size rowW (grp rows i) h4.2
 have h6 : rowW.size = 3 := rfl
 exact ⟨h4.1, h4.2, by omega⟩
theorem impl_MatrixText_ev (p c : Int) (rows : List (List Int)) (hl : rows.length ≤ 1048576) (hr : ∀ r ∈ rows, r.length ≤ 1048576) : Ev (fun k => impl_MatrixText.f k p c rows) (matTextB p c rows) := by
 unfold impl_MatrixText.f matTextB
 refine Ev.bind (impl_ValidMatrix_ev p c rows (by omega) (fun r h => Nat.le_trans (hr r h) (by omega))) ?_
 cases hv : validMB p c rows with
 | false => exact Ev.now _
 | true =>
  obtain ⟨h1, h2, h3⟩ := mat_facts hv
  simp only [if_true]
  refine Ev.bind (impl_words_ev (⟨#[109, 97, 116, 114, 105, 120]⟩ : ByteArray) [p, c] (by decide) (by simp) h1) ?_
  have hs := matHead_size h1
  have hs2 : (matHead p c).size = (wordsB (⟨#[109, 97, 116, 114, 105, 120]⟩ : ByteArray) [p, c]).size + 1 := by unfold matHead; simp only [ByteArray.size_append]; rfl
  simp only [if_pos (show (wordsB (⟨#[109, 97, 116, 114, 105, 120]⟩ : ByteArray) [p, c]).size + 1 ≤ 9223372036854775807 by omega)]
  have key : ∀ d i : Nat, i + d = rows.length → Ev (fun k => impl_MatrixText.l0 k (matTx (matHead p c) (rows.take i)) rows (rows.length : Int) (i : Int)) (matTx (matHead p c) rows) := by
   intro d
   induction d with
   | zero =>
    intro i hi
    rw [List.take_of_length_le (by omega)]
    refine Ev.step (f := fun _ => some (matTx (matHead p c) rows)) (fun k => ?_) (Ev.now _)
    simp only [impl_MatrixText.l0]
    rw [if_neg (by omega)]
   | succ d ih =>
    intro i hi
    have hlt : i < rows.length := by omega
    have hn := ih (i + 1) (by omega)
    rw [matTx_take _ _ _ hlt] at hn
    have hm := mat_mid hv i
    obtain ⟨r1, r2, r3⟩ := mat_row hv i hlt
    have r4 : (wordsB rowW (grp rows i) ++ nlW).size = (wordsB rowW (grp rows i)).size + 1 := by simp only [ByteArray.size_append]; rfl
    refine Ev.step (f := fun k => (impl_words.f k rowW (grp rows i)).bind fun t => if t.size + 1 ≤ 9223372036854775807 then (if (matTx (matHead p c) (rows.take i)).size + (t ++ nlW).size ≤ 9223372036854775807 then impl_MatrixText.l0 k (matTx (matHead p c) (rows.take i) ++ (t ++ nlW)) rows (rows.length : Int) ((i + 1 : Nat) : Int) else none) else none) (fun k => ?_) (Ev.bind (impl_words_ev rowW (grp rows i) (by decide) (by omega) r2) ?_)
    ·simp only [impl_MatrixText.l0]
     rw [if_pos (by omega), if_pos (by omega), if_pos (by omega), rdL_grp rows i hlt, wr (by omega) (by omega)]
     rfl
    ·simp only [if_pos (show (wordsB rowW (grp rows i)).size + 1 ≤ 9223372036854775807 by omega), if_pos (show (matTx (matHead p c) (rows.take i)).size + (wordsB rowW (grp rows i) ++ nlW).size ≤ 9223372036854775807 by omega)]
     exact hn
  exact key rows.length 0 (by omega)
def From (P : Nat → Prop) : Prop := ∃ K, ∀ k, K ≤ k → P k
theorem From.and {P Q : Nat → Prop} (hp : From P) (hq : From Q) : From fun k => P k ∧ Q k := by
 obtain ⟨K, hK⟩ := hp
 obtain ⟨L, hL⟩ := hq
 exact ⟨max K L, fun k h => ⟨hK k (by omega), hL k (by omega)⟩⟩
theorem From.now {P : Nat → Prop} (h : From P) : ∃ k, P k := by
 obtain ⟨K, hK⟩ := h
 exact ⟨K, hK K (Nat.le_refl _)⟩
def cutAt (c : UInt8) : List UInt8 → List (List UInt8)
 | [] => [[]]
 | b :: bs => if b = c then [] :: cutAt c bs else match cutAt c bs with
  | [] => [[b]]
  | p :: ps => (b :: p) :: ps
def glue (c : UInt8) : List (List UInt8) → List UInt8
 | [] => []
 | [p] => p
 | p :: q :: ps => p ++ c :: glue c (q :: ps)
theorem cutAt_ne (c : UInt8) : ∀ l, ∃ p ps, cutAt c l = p :: ps
 | [] => ⟨_, _, rfl⟩
 | b :: bs => by
  obtain ⟨p, ps, e⟩ := cutAt_ne c bs
  simp only [cutAt, e]
  split <;> exact ⟨_, _, rfl⟩
theorem cutAt_word (c : UInt8) : ∀ w : List UInt8, c ∉ w → cutAt c w = [w]
 | [], _ => rfl
 | b :: bs, h => by
  have h1 : b ≠ c := fun e => h (by rw [e]; exact List.mem_cons_self ..)
  simp only [cutAt, if_neg h1, cutAt_word c bs (fun m => h (List.mem_cons_of_mem _ m))]
theorem cutAt_app (c : UInt8) (t : List UInt8) : ∀ w : List UInt8, c ∉ w → cutAt c (w ++ c :: t) = w :: cutAt c t
 | [], _ => by simp [cutAt]
 | b :: bs, h => by
  have h1 : b ≠ c := fun e => h (by rw [e]; exact List.mem_cons_self ..)
  simp only [List.cons_append, cutAt, if_neg h1, cutAt_app c t bs (fun m => h (List.mem_cons_of_mem _ m))]
theorem glue_cutAt (c : UInt8) : ∀ l, glue c (cutAt c l) = l
 | [] => rfl
 | b :: bs => by
  have ih := glue_cutAt c bs
  obtain ⟨p, ps, e⟩ := cutAt_ne c bs
  rw [e] at ih
  simp only [cutAt, e]
  by_cases h : b = c
  ·subst h
   simp only [if_true, glue, List.nil_append]
   rw [ih]
  ·simp only [if_neg h]
   cases ps with
   | nil => simp only [glue] at ih ⊢; rw [ih]
   | cons q qs => simp only [glue, List.cons_append] at ih ⊢; rw [ih]
theorem cutAt_len (c : UInt8) : ∀ l, (cutAt c l).length ≤ l.length + 1
 | [] => Nat.le_refl _
 | b :: bs => by
  have ih := cutAt_len c bs
  obtain ⟨p, ps, e⟩ := cutAt_ne c bs
  simp only [cutAt, e]
  rw [e] at ih
  split <;> simp only [List.length_cons] at ih ⊢ <;> omega
theorem cutAt_short (c : UInt8) : ∀ l, ∀ p ∈ cutAt c l, p.length ≤ l.length
 | [], p, h => by
  simp only [cutAt, List.mem_singleton] at h
  subst h
  exact Nat.le_refl _
 | b :: bs, x, h => by
  have ih := cutAt_short c bs
  obtain ⟨p, ps, e⟩ := cutAt_ne c bs
  simp only [cutAt, e] at h
  rw [e] at ih
  have hp := ih p (List.mem_cons_self ..)
  split at h
  ·rcases List.mem_cons.mp h with rfl | h
   ·simp
   ·have := ih x h
    rw [List.length_cons]
    omega
  ·rcases List.mem_cons.mp h with rfl | h
   ·simp only [List.length_cons]; omega
   ·have := ih x (List.mem_cons_of_mem _ h)
    rw [List.length_cons]
    omega
def mkB (l : List UInt8) : ByteArray := ⟨l.toArray⟩
theorem mkB_data (l : List UInt8) : (mkB l).data.toList = l := rfl
theorem mkB_eta (s : ByteArray) : mkB s.data.toList = s := bytes_ext rfl
theorem mkB_size (l : List UInt8) : (mkB l).size = l.length := by simp [mkB, ByteArray.size]
theorem size_data (s : ByteArray) : s.size = s.data.toList.length := (Array.length_toList).symm
theorem splitK_ev (c : UInt8) : ∀ (n : Nat) (l : List UInt8), l.length ≤ n → Go.Lib.splitK [c] 0 (Go.Lib.count l [c]) l = cutAt c l := by
 intro n
 induction n with
 | zero =>
  intro l h
  have : l = [] := List.length_eq_zero_iff.mp (by omega)
  subst this
  rfl
 | succ n ih =>
  intro l h
  have key : ∀ l : List UInt8, (c ∉ l ∧ Go.Lib.indexByte l c = -1) ∨ ∃ w t, l = w ++ c :: t ∧ c ∉ w ∧ Go.Lib.indexByte l c = (w.length : Int) := by
   intro l
   induction l with
   | nil => exact Or.inl ⟨by simp, rfl⟩
   | cons b bs ih2 =>
    by_cases hb : b = c
    ·subst hb
     exact Or.inr ⟨[], bs, rfl, by simp, by simp [Go.Lib.indexByte]⟩
    ·rcases ih2 with ⟨h1, h2⟩ | ⟨w, t, h1, h2, h3⟩
     ·refine Or.inl ⟨fun m => ?_, ?_⟩
      ·rcases List.mem_cons.mp m with rfl | m
       ·exact hb rfl
       ·exact h1 m
      ·simp [Go.Lib.indexByte, hb, h2]
     ·refine Or.inr ⟨b :: w, t, by rw [h1]; rfl, fun m => ?_, ?_⟩
      ·rcases List.mem_cons.mp m with rfl | m
       ·exact hb rfl
       ·exact h2 m
      ·simp only [Go.Lib.indexByte, h3, List.length_cons]
       have e1 : (b == c) = false := by simpa using hb
       rw [e1]
       simp only [Bool.false_eq_true, if_false]
       rw [if_neg (by simp)]
       push_cast
       rfl
  rcases key l with ⟨h1, h2⟩ | ⟨w, t, h1, h2, h3⟩
  ·have hi : Go.Lib.index l [c] = -1 := by rw [Go.Lib.index_one]; exact h2
   rw [Go.Lib.count_miss hi, cutAt_word c l h1]
   rfl
  ·have hi : Go.Lib.index l [c] = (w.length : Int) := by rw [Go.Lib.index_one]; exact h3
   rw [Go.Lib.count_hit (by simp) hi, Nat.add_comm 1]
   have ht : l.drop (w.length + [c].length) = t := by
    rw [h1, List.length_singleton]
    simp [List.drop_append]
   have hl : t.length ≤ n := by
    have := congrArg List.length h1
    simp only [List.length_append, List.length_cons] at this
    omega
   rw [ht]
   unfold Go.Lib.splitK
   rw [if_neg (by rw [hi]; simp), hi]
   simp only [Int.toNat_natCast, Nat.add_zero]
   rw [ht, ih t hl]
   have hw : l.take w.length = w := by rw [h1]; simp
   rw [hw]
   conv => rhs; rw [h1]
   rw [cutAt_app c t w h2]
theorem splitL_ev (s : ByteArray) (c : UInt8) : splitL s (⟨#[c]⟩ : ByteArray) = (cutAt c s.data.toList).map mkB := by
 have h := Go.Lib.splitB_data (⟨#[c]⟩ : ByteArray) 0 (Go.Lib.countB s (⟨#[c]⟩ : ByteArray)) s
 have h2 : Go.Lib.splitK [c] 0 (Go.Lib.countB s (⟨#[c]⟩ : ByteArray)) s.data.toList = cutAt c s.data.toList := splitK_ev c _ _ (Nat.le_refl _)
 have h3 : (splitL s (⟨#[c]⟩ : ByteArray)).map (·.data.toList) = cutAt c s.data.toList := h.trans h2
 rw [← h3, List.map_map]
 have : (mkB ∘ fun x : ByteArray => x.data.toList) = id := funext fun x => mkB_eta x
 rw [this, List.map_id]
theorem bt_list (s : ByteArray) (i : Nat) (h : i < s.size) : ∃ b r, s.data.toList.drop i = b :: r ∧ s.data.toList.drop (i + 1) = r ∧ bt s (i : Int) = (b.toNat : Int) := by
 have hl : i < s.data.toList.length := by rw [← size_data]; exact h
 refine ⟨s.data.toList[i], s.data.toList.drop (i + 1), List.drop_eq_getElem_cons hl, rfl, ?_⟩
 unfold bt
 rw [dif_pos (by simpa using h)]
 rfl
def preC (w : List UInt8) : List (List UInt8) → List (List UInt8)
 | [] => [w]
 | p :: r => (w ++ p) :: r
theorem preC_nil (l : List UInt8) (c : UInt8) : preC [] (cutAt c l) = cutAt c l := by
 obtain ⟨p, ps, e⟩ := cutAt_ne c l
 rw [e]
 rfl
theorem preC_other {b c : UInt8} (h : b ≠ c) (w r : List UInt8) : preC w (cutAt c (b :: r)) = preC (w ++ [b]) (cutAt c r) := by
 obtain ⟨p, ps, e⟩ := cutAt_ne c r
 simp [cutAt, e, h, preC]
theorem take_more (L : List UInt8) (a i : Nat) (b : UInt8) (r : List UInt8) (ha : a ≤ i) (h : L.drop i = b :: r) : (L.drop a).take (i + 1 - a) = (L.drop a).take (i - a) ++ [b] := by
 have e : i + 1 - a = (i - a) + 1 := by omega
 have h2 : (L.drop a).drop (i - a) = b :: r := by rw [List.drop_drop, show a + (i - a) = i by omega]; exact h
 rw [e, List.take_add_one, ← List.head?_drop, h2]
 rfl
theorem spec_l01Split_ev (s : ByteArray) (c : UInt8) (hs : s.size ≤ 1048576) : Ev (fun k => spec_l01Split.f k s (c.toNat : Int)) ((cutAt c s.data.toList).map mkB) := by
 unfold spec_l01Split.f
 have key : ∀ d i a : Nat, ∀ acc : List ByteArray, i + d = s.size → a ≤ i → acc.length ≤ a → Ev (fun k => spec_l01Split.l0 k s (c.toNat : Int) acc (a : Int) (i : Int)) (acc ++ (preC ((s.data.toList.drop a).take (i - a)) (cutAt c (s.data.toList.drop i))).map mkB) := by
  intro d
  induction d with
  | zero =>
   intro i a acc hi ha hacc
   have hend : s.data.toList.drop i = [] := List.drop_eq_nil_of_le (by rw [← size_data]; omega)
   have he : s.extract a s.size = mkB ((s.data.toList.drop a).take (i - a)) := bytes_ext (by rw [Go.Lib.extract_data, mkB_data, show i = s.size by omega])
   refine Ev.step (f := fun _ => some (acc ++ [s.extract a s.size])) (fun k => ?_) (by rw [hend, he]; simp only [cutAt, preC, List.append_nil, List.map_cons, List.map_nil]; exact Ev.now _)
   simp only [spec_l01Split.l0]
   rw [if_neg (by omega), if_pos (by omega), if_pos (by omega), if_pos (by omega)]
   rfl
  | succ d ih =>
   intro i a acc hi ha hacc
   obtain ⟨b, r, h1, h2, h3⟩ := bt_list s i (by omega)
   by_cases e : b = c
   ·subst e
    have he : s.extract a i = mkB ((s.data.toList.drop a).take (i - a)) := bytes_ext (by rw [Go.Lib.extract_data, mkB_data])
    have hn := ih (i + 1) (i + 1) (acc ++ [s.extract a i]) (by omega) (Nat.le_refl _) (by simp; omega)
    rw [Nat.sub_self, List.take_zero, preC_nil, h2, he] at hn
    rw [h1]
    have e2 : acc ++ (preC ((s.data.toList.drop a).take (i - a)) (cutAt b (b :: r))).map mkB = acc ++ [mkB ((s.data.toList.drop a).take (i - a))] ++ (cutAt b r).map mkB := by simp [cutAt, preC]
    rw [e2]
    refine Ev.step (fun k => ?_) hn
    simp only [spec_l01Split.l0]
    rw [if_pos (by omega), if_pos (by omega), if_pos h3, if_pos (by omega), if_pos (by omega), if_pos (by omega), if_pos (by omega), wr (by omega) (by omega), ← he]
    rfl
   ·have hn := ih (i + 1) a acc (by omega) (by omega) hacc
    rw [h2, take_more _ a i b r ha h1, ← preC_other e, ← h1] at hn
    refine Ev.step (fun k => ?_) hn
    simp only [spec_l01Split.l0]
    have hb : ¬ (bt s (i : Int) = (c.toNat : Int)) := by
     rw [h3]
     intro h
     exact e (UInt8.toNat_inj.mp (by omega))
    rw [if_pos (by omega), if_pos (by omega), if_neg hb, wr (by omega) (by omega)]
    rfl
 have := key s.size 0 0 [] (by omega) (Nat.le_refl _) (Nat.le_refl _)
 rw [Nat.sub_self, List.take_zero, preC_nil] at this
 simpa using this
def digV (acc : Nat) (l : List UInt8) : Nat := l.foldl (fun a b => a * 10 + (b.toNat - 48)) acc
def isDig (b : UInt8) : Bool := decide (48 ≤ b.toNat ∧ b.toNat ≤ 57)
def numB (l : List UInt8) : Option Int := if (1 ≤ l.length ∧ l.length ≤ 9) ∧ l.all isDig = true ∧ (l.head? = some 48 → l.length = 1) then some (digV 0 l : Nat) else none
theorem digV_ge : ∀ (l : List UInt8) (acc : Nat), acc ≤ digV acc l
 | [], acc => Nat.le_refl _
 | b :: l, acc => Nat.le_trans (by omega) (digV_ge l (acc * 10 + (b.toNat - 48)))
theorem spec_l01Number_ev (s : ByteArray) (hs : s.size ≤ 1048576) : Ev (fun k => spec_l01Number.f k s) (((numB s.data.toList).getD 0, (numB s.data.toList).isSome)) := by
 have hsz := size_data s
 have bad : Ev (fun k => spec_l01Number.j0 k s true) (0, false) := Ev.step (f := fun _ => some (0, false)) (fun k => by simp only [spec_l01Number.j0, if_true]) (Ev.now _)
 unfold spec_l01Number.f
 by_cases c1 : (s.size : Int) < 1
 ·rw [show numB s.data.toList = none from if_neg (by omega)]
  simp only [if_pos c1]
  exact bad
 simp only [if_neg c1]
 by_cases c2 : (s.size : Int) > 9
 ·rw [show numB s.data.toList = none from if_neg (by omega)]
  simp only [if_pos c2]
  exact bad
 simp only [if_neg c2, if_pos (show 0 < (s.size : Int) by omega)]
 have key : ∀ d i acc : Nat, i + d = s.size → acc < 10 ^ i → Ev (fun k => spec_l01Number.l0 k s (acc : Int) (i : Int)) (if (s.data.toList.drop i).all isDig = true then (((digV acc (s.data.toList.drop i) : Nat) : Int), true) else (0, false)) := by
  intro d
  induction d with
  | zero =>
   intro i acc hi ha
   have hend : s.data.toList.drop i = [] := List.drop_eq_nil_of_le (by omega)
   rw [hend]
   refine Ev.step (f := fun _ => some ((acc : Int), true)) (fun k => ?_) (Ev.now _)
   simp only [spec_l01Number.l0]
   rw [if_neg (by omega)]
  | succ d ih =>
   intro i acc hi ha
   obtain ⟨b, r, h1, h2, h3⟩ := bt_list s i (by omega)
   have hp : 10 ^ (i + 1) ≤ 10 ^ 9 := Nat.pow_le_pow_right (by decide) (by omega)
   rw [Nat.pow_succ] at hp
   by_cases hb : isDig b = true
   ·have hb2 : 48 ≤ b.toNat ∧ b.toNat ≤ 57 := by simpa [isDig] using hb
    have hn := ih (i + 1) (acc * 10 + (b.toNat - 48)) (by omega) (by rw [Nat.pow_succ]; omega)
    rw [h2] at hn
    rw [h1]
    simp only [List.all_cons, hb, Bool.true_and]
    refine Ev.step (fun k => ?_) hn
    simp only [spec_l01Number.l0]
    rw [if_pos (by omega), if_pos (by omega), h3, if_neg (by omega), if_neg (by omega), wr (x := (acc : Int) * 10) (by omega) (by omega), wr (x := (i : Int) + 1) (by omega) (by omega), wr (by omega) (by omega)]
    congr 1
    omega
   ·rw [h1]
    have hb' : isDig b = false := by simpa using hb
    simp only [List.all_cons, hb', Bool.false_and, Bool.false_eq_true, if_false]
    have hb2 : ¬ (48 ≤ b.toNat ∧ b.toNat ≤ 57) := by simpa [isDig] using hb
    refine Ev.step (f := fun _ => some (0, false)) (fun k => ?_) (Ev.now _)
    simp only [spec_l01Number.l0]
    rw [if_pos (by omega), if_pos (by omega), h3]
    by_cases h48 : (b.toNat : Int) < 48
    ·rw [if_pos h48]
    ·rw [if_neg h48, if_pos (by omega)]
 have go := key s.size 0 0 (by omega) (by decide)
 rw [List.drop_zero] at go
 obtain ⟨b, r, h1, h2, h3⟩ := bt_list s 0 (by omega)
 rw [List.drop_zero] at h1
 have h3' : bt s 0 = (b.toNat : Int) := h3
 have run : Ev (fun k => spec_l01Number.j0 k s false) (if s.data.toList.all isDig = true then (((digV 0 s.data.toList : Nat) : Int), true) else (0, false)) := Ev.step (f := fun k => spec_l01Number.l0 k s 0 0) (fun k => by simp only [spec_l01Number.j0]; rw [if_neg (by decide)]) go
 have good : (s.data.toList.head? = some 48 → s.data.toList.length = 1) → Ev (fun k => spec_l01Number.j0 k s false) (((numB s.data.toList).getD 0, (numB s.data.toList).isSome)) := by
  intro hz
  by_cases ha : s.data.toList.all isDig = true
  ·rw [if_pos ha] at run
   rw [show numB s.data.toList = some ((digV 0 s.data.toList : Nat) : Int) from if_pos ⟨⟨by omega, by omega⟩, ha, hz⟩]
   exact run
  ·rw [if_neg ha] at run
   rw [show numB s.data.toList = none from if_neg (fun h => ha h.2.1)]
   exact run
 by_cases c3 : b = 48
 ·have e : bt s 0 = 48 := by rw [h3', c3]; rfl
  simp only [if_pos e]
  by_cases c4 : (s.size : Int) > 1
  ·rw [decide_eq_true c4, show numB s.data.toList = none from if_neg (fun h => by have := h.2.2 (by rw [h1, c3]; rfl); omega)]
   exact bad
  ·rw [decide_eq_false c4]
   exact good (fun _ => by omega)
 ·have e : ¬ bt s 0 = 48 := by
   rw [h3']
   intro h
   exact c3 (UInt8.toNat_inj.mp (by have : (48 : UInt8).toNat = 48 := rfl; omega))
  simp only [if_neg e]
  exact good (fun h => by rw [h1] at h; exact absurd (Option.some.inj h) c3)
def numsB (l : List (List UInt8)) : List Int × Bool := match l with
 | [] => ([], true)
 | p :: ps => match numB p with
  | some n => (n :: (numsB ps).1, (numsB ps).2)
  | none => ([], false)
theorem spec_l03Numbers_ev (L : List (List UInt8)) (a : Nat) (ha : a ≤ L.length) (hn : L.length ≤ 1048577) (hL : ∀ p ∈ L, p.length ≤ 1048576) : Ev (fun k => spec_l03Numbers.f k (L.map mkB) (a : Int)) (numsB (L.drop a)) := by
 unfold spec_l03Numbers.f
 have key : ∀ d i : Nat, ∀ acc : List Int, i + d = L.length → acc.length ≤ i → Ev (fun k => spec_l03Numbers.l0 k (L.map mkB) acc (i : Int)) (acc ++ (numsB (L.drop i)).1, (numsB (L.drop i)).2) := by
  intro d
  induction d with
  | zero =>
   intro i acc hi hacc
   rw [List.drop_eq_nil_of_le (by omega)]
   refine Ev.step (f := fun _ => some (acc, true)) (fun k => ?_) (by simp only [numsB, List.append_nil]; exact Ev.now _)
   simp only [spec_l03Numbers.l0]
   rw [if_neg (by rw [List.length_map]; omega)]
  | succ d ih =>
   intro i acc hi hacc
   have hlt : i < L.length := by omega
   have hx : rdOf ByteArray.empty (L.map mkB) (i : Int) = mkB L[i] := by simp [rdOf, hlt]
   rw [List.drop_eq_getElem_cons hlt]
   have hnum := spec_l01Number_ev (mkB L[i]) (by rw [mkB_size]; exact hL _ (List.getElem_mem hlt))
   rw [mkB_data] at hnum
   refine Ev.step (f := fun k => (spec_l01Number.f k (mkB L[i])).bind fun bt440 => (if bt440.2 = true then (if acc.length < 17592186044416 then (spec_l03Numbers.l0 k (L.map mkB) (acc ++ [bt440.1]) ((i + 1 : Nat) : Int)) else none) else some (acc, false))) (fun k => ?_) (Ev.bind hnum ?_)
   ·simp only [spec_l03Numbers.l0]
    rw [if_pos (by rw [List.length_map]; omega), if_pos (by omega), hx, wr (by omega) (by omega)]
    rfl
   ·cases e : numB L[i] with
    | none =>
     simp only [numsB, e, Option.isSome_none, Bool.false_eq_true, if_false, List.append_nil]
     exact Ev.now _
    | some n =>
     have := ih (i + 1) (acc ++ [n]) (by omega) (by simp; omega)
     simp only [numsB, e, Option.isSome_some, if_true, Option.getD_some]
     simp only [if_pos (show acc.length < 17592186044416 by omega)]
     rw [List.append_assoc] at this
     exact this
 exact key (L.length - a) a [] (by omega) (Nat.zero_le _)
def wRow : List UInt8 := [114, 111, 119]
def wMat : List UInt8 := [109, 97, 116, 114, 105, 120]
def lineB (w : List UInt8) (l : List UInt8) : Option (List Int) := if (numsB ((cutAt 32 l).drop 1)).2 = true ∧ (cutAt 32 l).head? = some w then some (numsB ((cutAt 32 l).drop 1)).1 else none
def linesB (w : List UInt8) : List (List UInt8) → Option (List (List Int))
 | [] => some []
 | l :: ls => (lineB w l).bind fun r => (linesB w ls).bind fun rs => some (r :: rs)
def badR : Int × Int × List (List Int) × Int := (0, 0, [], 5)
def readB (LS : List (List UInt8)) : Int × Int × List (List Int) × Int := match LS with
 | [] => badR
 | h :: ls => match lineB wMat h with
  | some [p, c] => if ls.getLast? = some [] then (match linesB wRow ls.dropLast with
   | some rows => if validMB p c rows then (p, c, rows, 0) else badR
   | none => badR) else badR
  | _ => badR
theorem toList_mkB (l : List UInt8) : (mkB l).toList = l := by rw [ByteArray.toList_eq, mkB_data]
theorem numsB_len : ∀ L, (numsB L).1.length ≤ L.length
 | [] => Nat.le_refl _
 | p :: ps => by
  have := numsB_len ps
  simp only [numsB]
  cases numB p <;> simp only [List.length_cons, List.length_nil] <;> omega
theorem lineB_len {w l : List UInt8} {r : List Int} (h : lineB w l = some r) : r.length ≤ l.length := by
 unfold lineB at h
 split at h
 ·obtain rfl := Option.some.inj h
  have h1 := numsB_len ((cutAt 32 l).drop 1)
  have h2 := cutAt_len 32 l
  rw [List.length_drop] at h1
  omega
 ·cases h
theorem spec_line_ev {α : Type} (l w : List UInt8) (hl : l.length ≤ 1048576) (F G : Nat → List Int → Option α) {r : α} (hgood : ∀ v, lineB w l = some v → Ev (fun k => F k v) r) (hbad : lineB w l = none → ∀ v, Ev (fun k => G k v) r) :
  Ev (fun k => (spec_l01Split.f k (mkB l) 32).bind fun t => (spec_l03Numbers.f k t 1).bind fun b => if b.2 = true then (if 0 < (t.length : Int) then (if (rdOf ByteArray.empty t 0).toList = w then F k b.1 else G k b.1) else none) else G k b.1) r := by
 have h1 := spec_l01Split_ev (mkB l) 32 (by rw [mkB_size]; exact hl)
 rw [mkB_data] at h1
 obtain ⟨p, ps, e⟩ := cutAt_ne 32 l
 have hlen := cutAt_len 32 l
 refine Ev.bind h1 (Ev.bind (spec_l03Numbers_ev (cutAt 32 l) 1 (by rw [e]; simp) (by omega) (fun q hq => Nat.le_trans (cutAt_short 32 l q hq) hl)) ?_)
 have hx : (rdOf ByteArray.empty ((cutAt 32 l).map mkB) 0).toList = p := by rw [e]; exact toList_mkB p
 have h0 : (0 : Int) < (((cutAt 32 l).map mkB).length : Int) := by rw [e]; simp
 simp only [hx, if_pos h0]
 by_cases c : (numsB ((cutAt 32 l).drop 1)).2 = true
 ·simp only [if_pos c]
  by_cases c2 : p = w
  ·simp only [if_pos c2]
   exact hgood _ (if_pos ⟨c, by rw [e, c2]; rfl⟩)
  ·simp only [if_neg c2]
   exact hbad (if_neg (fun h => c2 (by have := h.2; rw [e] at this; exact Option.some.inj this))) _
 ·simp only [if_neg c]
  exact hbad (if_neg (fun h => c h.1)) _
theorem spec_rows_ev (h : List UInt8) (ls : List (List UInt8)) (z : List UInt8) (p c : Int) (hn : ls.length ≤ 1048576) (hl : ∀ l ∈ ls, l.length ≤ 1048576) :
  Ev (fun k => spec_ReadMatrix.l0 k ((h :: ls ++ [z]).map mkB) 1 p c []) (match linesB wRow ls with | some rows => if validMB p c rows then (p, c, rows, 0) else badR | none => badR) := by
 have key : ∀ d i : Nat, ∀ acc : List (List Int), i + d = ls.length → acc.length = i → (∀ r ∈ acc, r.length ≤ 1048576) → Ev (fun k => spec_ReadMatrix.l0 k ((h :: ls ++ [z]).map mkB) ((i + 1 : Nat) : Int) p c acc) (match linesB wRow (ls.drop i) with | some rows => if validMB p c (acc ++ rows) then (p, c, acc ++ rows, 0) else badR | none => badR) := by
  intro d
  induction d with
  | zero =>
   intro i acc hi hacc hr
   rw [List.drop_eq_nil_of_le (by omega)]
   simp only [linesB, List.append_nil]
   refine Ev.step (f := fun k => (spec_l03Ok.f k p c acc).bind fun t462 => (if t462 = true then (some (p, c, acc, 0)) else (some (0, 0, ([] : List (List Int)), 5)))) (fun k => ?_) (Ev.bind (spec_l03Ok_ev p c acc (by omega) (fun r h => Nat.le_trans (hr r h) (by omega))) ?_)
   ·simp only [spec_ReadMatrix.l0]
    rw [if_neg (by rw [wr (by omega) (by omega)]; simp; omega)]
   ·cases validMB p c acc with
    | true => exact Ev.now _
    | false => exact Ev.now _
  | succ d ih =>
   intro i acc hi hacc hr
   have hlt : i < ls.length := by omega
   have hx : rdOf ByteArray.empty ((h :: ls ++ [z]).map mkB) ((i + 1 : Nat) : Int) = mkB ls[i] := by
    unfold rdOf
    simp [List.getElem?_append, hlt]
   rw [List.drop_eq_getElem_cons hlt]
   refine Ev.step (fun k => ?_) (spec_line_ev ls[i] wRow (hl _ (List.getElem_mem hlt)) (fun k v => if acc.length < 5864062014805 then spec_ReadMatrix.l0 k ((h :: ls ++ [z]).map mkB) ((i + 1 + 1 : Nat) : Int) p c (acc ++ [v]) else none) (fun _ _ => some badR) (fun v hv => ?_) (fun hv v => ?_))
   ·simp only [spec_ReadMatrix.l0]
    rw [if_pos (by rw [wr (by omega) (by omega)]; simp; omega), if_pos (by omega), if_pos (by simp; omega), hx, wr (by omega) (by omega)]
    rfl
   ·simp only [if_pos (show acc.length < 5864062014805 by omega), linesB, hv, Option.bind_some]
    have hv2 := lineB_len hv
    have := ih (i + 1) (acc ++ [v]) (by omega) (by simp; omega) (fun r hr2 => by
     rcases List.mem_append.mp hr2 with hr2 | hr2
     ·exact hr r hr2
     ·obtain rfl := List.mem_singleton.mp hr2
      have := hl _ (List.getElem_mem hlt)
      omega)
    cases e : linesB wRow (ls.drop (i + 1)) with
    | none => rw [e] at this; exact this
    | some rows =>
     rw [e] at this
     simp only [List.append_assoc, List.singleton_append] at this
     exact this
   ·simp only [linesB, hv, Option.bind_none]
    exact Ev.now _
 have := key ls.length 0 [] (by omega) rfl (fun r hr => by cases hr)
 simpa using this
theorem spec_ReadMatrix_ev (a0 : ByteArray) (hs : ¬ (a0.size : Int) > 4000) : Ev (fun k => spec_ReadMatrix.f k a0) (readB (cutAt 10 a0.data.toList)) := by
 have hsz := size_data a0
 unfold spec_ReadMatrix.f
 simp only [if_neg hs]
 refine Ev.bind (spec_l01Split_ev a0 10 (by omega)) ?_
 have hlen := cutAt_len 10 a0.data.toList
 have hsh := cutAt_short 10 a0.data.toList
 obtain ⟨h, ls, e⟩ := cutAt_ne 10 a0.data.toList
 rw [e] at hlen hsh ⊢
 have hx : rdOf ByteArray.empty ((h :: ls).map mkB) 0 = mkB h := rfl
 simp only [hx]
 have h0 : (0 : Int) < (((h :: ls).map mkB).length : Int) := by simp
 simp only [if_pos h0]
 have bad : ∀ v, Ev (fun k => spec_ReadMatrix.j0 k ((h :: ls).map mkB) v true) badR := fun v => Ev.step (f := fun _ => some badR) (fun k => by simp only [spec_ReadMatrix.j0, if_true]; rfl) (Ev.now _)
 have hll : ((h :: ls).map mkB).length = ls.length + 1 := by simp
 refine spec_line_ev h wMat (by have := hsh h (List.mem_cons_self ..); omega) (fun k v => if (v.length : Int) = 2 then (if (((h :: ls).map mkB).length : Int) < 2 then (spec_ReadMatrix.j0 k ((h :: ls).map mkB) v true) else (if 0 ≤ (wrap64 ((((h :: ls).map mkB).length : Int) - 1)) then (if (wrap64 ((((h :: ls).map mkB).length : Int) - 1)) < (((h :: ls).map mkB).length : Int) then (spec_ReadMatrix.j0 k ((h :: ls).map mkB) v ((rdOf ByteArray.empty ((h :: ls).map mkB) (wrap64 ((((h :: ls).map mkB).length : Int) - 1))).toList != ([] : List UInt8))) else (none)) else (none))) else (spec_ReadMatrix.j0 k ((h :: ls).map mkB) v true)) (fun k v => spec_ReadMatrix.j0 k ((h :: ls).map mkB) v true) (fun v hv => ?_) (fun hv v => ?_)
 ·by_cases c2 : (v.length : Int) = 2
  ·simp only [if_pos c2, hll, wr (x := ((ls.length + 1 : Nat) : Int) - 1) (by omega) (by simp only [List.length_cons] at hlen; omega)]
   obtain ⟨p, c, rfl⟩ : ∃ p c, v = [p, c] := by
    match v, c2 with
    | [p, c], _ => exact ⟨p, c, rfl⟩
    | [], h => simp at h
    | [_], h => simp at h
    | _ :: _ :: _ :: _, h => simp at h; omega
   rcases List.eq_nil_or_concat ls with rfl | ⟨ms, z, rfl⟩
   ·simp only [List.length_nil]
    rw [show readB [h] = badR by simp [readB, hv]]
    exact bad _
   ·have hl2 : (ms.concat z).length = ms.length + 1 := by simp
    rw [List.length_cons, hl2] at hlen
    rw [hl2]
    simp only [if_neg (show ¬ (((ms.length + 1 + 1 : Nat) : Int) < 2) by omega), if_pos (show (0 : Int) ≤ ((ms.length + 1 + 1 : Nat) : Int) - 1 by omega), if_pos (show ((ms.length + 1 + 1 : Nat) : Int) - 1 < ((ms.length + 1 + 1 : Nat) : Int) by omega)]
    have hz : (rdOf ByteArray.empty ((h :: ms.concat z).map mkB) (((ms.length + 1 + 1 : Nat) : Int) - 1)).toList = z := by
     rw [show ((ms.length + 1 + 1 : Nat) : Int) - 1 = ((ms.length + 1 : Nat) : Int) by omega]
     unfold rdOf
     simp [toList_mkB]
    rw [hz]
    by_cases ez : z = []
    ·subst ez
     have hr := spec_rows_ev h ms [] p c (by omega) (fun l hl => by have := hsh l (by simp [hl]); omega)
     rw [show readB (h :: ms.concat []) = (match linesB wRow ms with | some rows => if validMB p c rows then (p, c, rows, 0) else badR | none => badR) by simp [readB, hv]]
     refine Ev.step (fun k => ?_) hr
     simp only [spec_ReadMatrix.j0]
     rw [if_neg (by simp)]
     simp only [List.concat_eq_append, List.cons_append]
     rfl
    ·rw [show readB (h :: ms.concat z) = badR by simp [readB, hv, ez]]
     rw [show (z != ([] : List UInt8)) = true by simpa using ez]
     exact bad _
  ·simp only [if_neg c2]
   have : readB (h :: ls) = badR := by
    match v, c2, hv with
    | [], _, hv => simp [readB, hv]
    | [_], _, hv => simp [readB, hv]
    | [_, _], h, _ => exact absurd rfl h
    | _ :: _ :: _ :: _, _, hv => simp [readB, hv]
   rw [this]
   exact bad _
 ·rw [show readB (h :: ls) = badR by simp [readB, hv]]
  exact bad _
def dig (n : Int) : List UInt8 := (decS n).data.toList
theorem dig_all : ∀ n : Fin 100, numB (dig (n.val : Int)) = some (n.val : Int) ∧ (dig (n.val : Int)).all isDig = true ∧ piB (decS (n.val : Int)) = ((n.val : Int), false) ∧ Go.Lib.itoa (n.val : Int) = dig (n.val : Int) := by decide +kernel
theorem dig_facts {n : Int} (h0 : 0 ≤ n) (h1 : n < 100) : numB (dig n) = some n ∧ (dig n).all isDig = true ∧ piB (decS n) = (n, false) ∧ Go.Lib.itoa n = dig n := by
 have := dig_all ⟨n.toNat, by omega⟩
 rwa [show ((n.toNat : Nat) : Int) = n by omega] at this
theorem dig_one : ∀ b : Fin 10, [UInt8.ofNat (48 + b.val)] = dig (b.val : Int) := by decide +kernel
theorem dig_two : ∀ a b : Fin 10, a.val ≠ 0 → [UInt8.ofNat (48 + a.val), UInt8.ofNat (48 + b.val)] = dig ((a.val * 10 + b.val : Nat) : Int) := by decide +kernel
theorem isDig_of {b : UInt8} (h : isDig b = true) : ∃ n, n < 10 ∧ b.toNat = 48 + n ∧ b = UInt8.ofNat (48 + n) := by
 have : 48 ≤ b.toNat ∧ b.toNat ≤ 57 := by simpa [isDig] using h
 refine ⟨b.toNat - 48, by omega, by omega, ?_⟩
 rw [show 48 + (b.toNat - 48) = b.toNat by omega]
 simp
theorem numB_dig {l : List UInt8} {v : Int} (h : numB l = some v) (hv : v < 100) : l = dig v ∧ 0 ≤ v := by
 unfold numB at h
 split at h
 ·rename_i c
  obtain ⟨⟨c1, c2⟩, c3, c4⟩ := c
  have e := Option.some.inj h
  refine ⟨?_, by omega⟩
  subst e
  rcases l with _ | ⟨a, _ | ⟨b, _ | ⟨d, r⟩⟩⟩
  ·simp at c1
  ·
   simp only [List.all_cons, Bool.and_eq_true] at c3
   obtain ⟨n, h1, h2, h3⟩ := isDig_of c3.1
   have := dig_one ⟨n, h1⟩
   simp only at this
   rw [← h3] at this
   have e9 : digV 0 [a] = n := by simp [digV, h2]
   rw [e9]
   exact this
  ·
   simp only [List.all_cons, Bool.and_eq_true] at c3
   obtain ⟨n, h1, h2, h3⟩ := isDig_of c3.1
   obtain ⟨m, k1, k2, k3⟩ := isDig_of c3.2.1
   have hn : n ≠ 0 := by
    intro e0
    subst e0
    have := c4 (by rw [h3]; rfl)
    simp at this
   have := dig_two ⟨n, h1⟩ ⟨m, k1⟩ hn
   simp only at this
   rw [← h3, ← k3] at this
   have e9 : digV 0 [a, b] = n * 10 + m := by simp [digV, h2, k2]
   rw [e9]
   exact this
  ·
   exfalso
   simp only [List.all_cons, Bool.and_eq_true] at c3
   obtain ⟨n, h1, h2, h3⟩ := isDig_of c3.1
   have hn : n ≠ 0 := by
    intro e0
    subst e0
    have := c4 (by rw [h3]; rfl)
    simp at this
   have := digV_ge r (((0 * 10 + (a.toNat - 48)) * 10 + (b.toNat - 48)) * 10 + (d.toNat - 48))
   have e2 : digV 0 (a :: b :: d :: r) = digV (((0 * 10 + (a.toNat - 48)) * 10 + (b.toNat - 48)) * 10 + (d.toNat - 48)) r := rfl
   rw [e2] at hv
   omega
 ·cases h
def lineL (w : List UInt8) (l : List Int) : List UInt8 := w ++ l.flatMap fun n => 32 :: dig n
theorem wordsB_data (w : ByteArray) (l : List Int) : (wordsB w l).data.toList = lineL w.data.toList l := by
 induction l generalizing w with
 | nil => simp [wordsB, lineL]
 | cons n l ih =>
  have e : wordsB w (n :: l) = wordsB (w ++ ((⟨#[32]⟩ : ByteArray) ++ decS n)) l := rfl
  rw [e, ih]
  simp [lineL, dig, List.flatMap_cons, List.append_assoc]
theorem dig_no {c : UInt8} (hc : isDig c = false) {n : Int} (h0 : 0 ≤ n) (h1 : n < 100) : c ∉ dig n := by
 intro m
 have := List.all_eq_true.mp (dig_facts h0 h1).2.1 c m
 rw [hc] at this
 cases this
theorem line_no (w : List UInt8) (l : List Int) (hw : (10 : UInt8) ∉ w) (hl : ∀ x ∈ l, 0 ≤ x ∧ x < 100) : (10 : UInt8) ∉ lineL w l := by
 unfold lineL
 intro m
 rcases List.mem_append.mp m with m | m
 ·exact hw m
 ·obtain ⟨n, h1, h2⟩ := List.mem_flatMap.mp m
  rcases List.mem_cons.mp h2 with h2 | h2
  ·exact absurd h2 (by decide)
  ·exact dig_no (by decide) (hl n h1).1 (hl n h1).2 h2
theorem cut_line (w : List UInt8) (l : List Int) (hw : (32 : UInt8) ∉ w) (hl : ∀ x ∈ l, 0 ≤ x ∧ x < 100) : cutAt 32 (lineL w l) = w :: l.map dig := by
 induction l generalizing w with
 | nil => simp only [lineL, List.flatMap_nil, List.append_nil, List.map_nil]; exact cutAt_word 32 w hw
 | cons n l ih =>
  have e : lineL w (n :: l) = w ++ 32 :: lineL (dig n) l := by simp [lineL]
  rw [e, cutAt_app 32 _ w hw, ih (dig n) (dig_no (by decide) (hl n (List.mem_cons_self ..)).1 (hl n (List.mem_cons_self ..)).2) (fun x h => hl x (List.mem_cons_of_mem _ h))]
  rfl
theorem numsB_map (l : List Int) (hl : ∀ x ∈ l, 0 ≤ x ∧ x < 100) : numsB (l.map dig) = (l, true) := by
 induction l with
 | nil => rfl
 | cons n l ih =>
  have := hl n (List.mem_cons_self ..)
  simp only [List.map_cons, numsB, (dig_facts this.1 this.2).1, ih (fun x h => hl x (List.mem_cons_of_mem _ h))]
theorem numsB_sound : ∀ (ps : List (List UInt8)), (numsB ps).2 = true → (∀ x ∈ (numsB ps).1, x < 100) → ps = (numsB ps).1.map dig
 | [], _, _ => rfl
 | p :: ps, h, hv => by
  simp only [numsB] at h hv ⊢
  cases e : numB p with
  | none => rw [e] at h; cases h
  | some n =>
   rw [e] at h hv
   simp only at h hv ⊢
   have h1 := (numB_dig e (hv n (List.mem_cons_self ..))).1
   have h2 := numsB_sound ps h (fun x hx => hv x (List.mem_cons_of_mem _ hx))
   rw [List.map_cons, ← h1, ← h2]
theorem glue_line (w : List UInt8) (l : List Int) : glue 32 (w :: l.map dig) = lineL w l := by
 induction l generalizing w with
 | nil => simp [glue, lineL]
 | cons n l ih =>
  have := ih (dig n)
  simp only [List.map_cons, glue] at this ⊢
  rw [this]
  simp [lineL]
theorem lineB_line (w : List UInt8) (l : List Int) (hw : (32 : UInt8) ∉ w) (hl : ∀ x ∈ l, 0 ≤ x ∧ x < 100) : lineB w (lineL w l) = some l := by
 unfold lineB
 rw [cut_line w l hw hl]
 simp only [List.drop_succ_cons, List.drop_zero, numsB_map l hl, List.head?_cons, and_self, if_true]
theorem lineB_sound {w x : List UInt8} {v : List Int} (h : lineB w x = some v) (hv : ∀ n ∈ v, n < 100) : x = lineL w v := by
 unfold lineB at h
 split at h
 ·rename_i c
  have e := Option.some.inj h
  obtain ⟨p, ps, e2⟩ := cutAt_ne 32 x
  have hg := glue_cutAt 32 x
  rw [e2] at c e hg
  simp only [List.drop_succ_cons, List.drop_zero, List.head?_cons] at c e
  have h1 := numsB_sound ps c.1 (by rw [e]; exact hv)
  rw [e] at h1
  rw [← hg, h1, Option.some.inj c.2, glue_line]
 ·cases h
def textL (p c : Int) (rows : List (List Int)) : List UInt8 := lineL wMat [p, c] ++ 10 :: rows.flatMap (fun r => lineL wRow r ++ [10])
theorem text_data (p c : Int) (rows : List (List Int)) : (matTx (matHead p c) rows).data.toList = textL p c rows := by
 have key : ∀ (rows : List (List Int)) (acc : ByteArray), (matTx acc rows).data.toList = acc.data.toList ++ rows.flatMap (fun r => lineL wRow r ++ [10]) := by
  intro rows
  induction rows with
  | nil => intro acc; simp [matTx]
  | cons r rows ih =>
   intro acc
   have e : matTx acc (r :: rows) = matTx (acc ++ (wordsB rowW r ++ nlW)) rows := rfl
   rw [e, ih]
   have e2 : (acc ++ (wordsB rowW r ++ nlW)).data.toList = acc.data.toList ++ (lineL wRow r ++ [10]) := by
    rw [← show (wordsB rowW r).data.toList = lineL wRow r from wordsB_data rowW r]
    simp [nlW]
   rw [e2, List.flatMap_cons, List.append_assoc]
 rw [key, show (matHead p c).data.toList = lineL wMat [p, c] ++ [10] by
  rw [← show (wordsB (⟨#[109, 97, 116, 114, 105, 120]⟩ : ByteArray) [p, c]).data.toList = lineL wMat [p, c] from wordsB_data _ _]
  simp [matHead, nlW]]
 simp [textL]
theorem cut_text (h : List UInt8) (ls : List (List UInt8)) (hh : (10 : UInt8) ∉ h) (hl : ∀ l ∈ ls, (10 : UInt8) ∉ l) : cutAt 10 (h ++ 10 :: ls.flatMap (fun l => l ++ [10])) = h :: ls ++ [[]] := by
 induction ls generalizing h with
 | nil => rw [List.flatMap_nil, cutAt_app 10 _ h hh]; rfl
 | cons l ls ih =>
  have e : h ++ 10 :: (l :: ls).flatMap (fun l => l ++ [10]) = h ++ 10 :: (l ++ 10 :: ls.flatMap (fun l => l ++ [10])) := by simp
  rw [e, cutAt_app 10 _ h hh, ih l (hl l (List.mem_cons_self ..)) (fun x hx => hl x (List.mem_cons_of_mem _ hx))]
  rfl
theorem glue_text (h : List UInt8) (ls : List (List UInt8)) : glue 10 (h :: ls ++ [[]]) = h ++ 10 :: ls.flatMap (fun l => l ++ [10]) := by
 induction ls generalizing h with
 | nil => simp [glue]
 | cons l ls ih =>
  have := ih l
  simp only [List.cons_append, glue, List.flatMap_cons, List.append_assoc, List.singleton_append, List.nil_append] at this ⊢
  rw [this]
theorem valid_small {p c : Int} {rows : List (List Int)} (h : validMB p c rows = true) : (∀ x ∈ [p, c], 0 ≤ x ∧ x < 100) ∧ ∀ r ∈ rows, ∀ x ∈ r, 0 ≤ x ∧ x < 100 :=
 ⟨(mat_facts h).1, fun r hr => ((mat_facts h).2.2 r hr).2⟩
theorem linesB_map (rows : List (List Int)) (hr : ∀ r ∈ rows, ∀ x ∈ r, 0 ≤ x ∧ x < 100) : linesB wRow (rows.map (lineL wRow)) = some rows := by
 induction rows with
 | nil => rfl
 | cons r rows ih =>
  simp only [List.map_cons, linesB, lineB_line wRow r (by decide) (hr r (List.mem_cons_self ..)), ih (fun q hq => hr q (List.mem_cons_of_mem _ hq)), Option.bind_some]
theorem linesB_sound : ∀ (ls : List (List UInt8)) (rows : List (List Int)), linesB wRow ls = some rows → (∀ r ∈ rows, ∀ x ∈ r, x < 100) → ls = rows.map (lineL wRow)
 | [], rows, h, _ => by
  obtain rfl := Option.some.inj h
  rfl
 | l :: ls, rows, h, hr => by
  simp only [linesB, Option.bind_eq_some_iff] at h
  obtain ⟨r, h1, rs, h2, h3⟩ := h
  obtain rfl := Option.some.inj h3
  rw [List.map_cons, ← linesB_sound ls rs h2 (fun q hq => hr q (List.mem_cons_of_mem _ hq)), ← lineB_sound h1 (hr r (List.mem_cons_self ..))]
theorem cut_matrix {p c : Int} {rows : List (List Int)} (h : validMB p c rows = true) : cutAt 10 (textL p c rows) = lineL wMat [p, c] :: rows.map (lineL wRow) ++ [[]] := by
 obtain ⟨h1, h2⟩ := valid_small h
 have e : textL p c rows = lineL wMat [p, c] ++ 10 :: (rows.map (lineL wRow)).flatMap (fun l => l ++ [10]) := by
  unfold textL
  rw [List.flatMap_map]
 rw [e, cut_text _ _ (line_no _ _ (by decide) h1) (fun l hl => by
  obtain ⟨r, hr, rfl⟩ := List.mem_map.mp hl
  exact line_no _ _ (by decide) (h2 r hr))]
theorem readB_text {p c : Int} {rows : List (List Int)} (h : validMB p c rows = true) : readB (cutAt 10 (textL p c rows)) = (p, c, rows, 0) := by
 obtain ⟨h1, h2⟩ := valid_small h
 rw [cut_matrix h]
 have e : (rows.map (lineL wRow) ++ [[]]).getLast? = some [] := by simp
 simp only [readB, List.cons_append, lineB_line wMat [p, c] (by decide) h1, e, if_true, List.dropLast_concat, linesB_map rows h2, h]
theorem readB_sound (L : List UInt8) : readB (cutAt 10 L) = badR ∨ ∃ p c rows, readB (cutAt 10 L) = (p, c, rows, 0) ∧ validMB p c rows = true ∧ textL p c rows = L := by
 have hg := glue_cutAt 10 L
 obtain ⟨h, ls, e⟩ := cutAt_ne 10 L
 rw [e] at hg ⊢
 unfold readB
 simp only
 split
 ·rename_i p c hv
  split
  ·rename_i hz
   split
   ·rename_i rows hr
    split
    ·rename_i hval
     refine Or.inr ⟨p, c, rows, rfl, hval, ?_⟩
     obtain ⟨h1, h2⟩ := valid_small hval
     have e1 := lineB_sound hv (fun n hn => (h1 n hn).2)
     have e2 := linesB_sound _ _ hr (fun r hr x hx => (h2 r hr x hx).2)
     have e3 : ls = ls.dropLast ++ [[]] := by
      rcases List.eq_nil_or_concat ls with rfl | ⟨ms, z, rfl⟩
      ·simp at hz
      ·simp at hz
       simp [hz]
     rw [← hg, e3, e1, ← List.cons_append, glue_text, e2]
     unfold textL
     rw [List.flatMap_map]
    ·exact Or.inl rfl
   ·exact Or.inl rfl
  ·exact Or.inl rfl
 ·exact Or.inl rfl
theorem beq_dec (a b : List UInt8) : (a == b) = decide (a = b) := by by_cases h : a = b <;> simp [h]
def In64 (n : Int) : Prop := -9223372036854775808 ≤ n ∧ n ≤ 9223372036854775807
def wordsGB (w : ByteArray) (l : List Int) : ByteArray := l.foldl (fun s n => s ++ ((⟨#[32]⟩ : ByteArray) ++ mkB (Go.Lib.itoa n))) w
theorem wordsGB_take (w : ByteArray) (l : List Int) (i : Nat) (h : i < l.length) : wordsGB w (l.take (i + 1)) = wordsGB w (l.take i) ++ ((⟨#[32]⟩ : ByteArray) ++ mkB (Go.Lib.itoa (rd l (i : Int)))) := by
 unfold wordsGB
 rw [List.take_succ_eq_append_getElem h, List.foldl_append]
 simp [rd, h]
theorem itoa_size {n : Int} (h : In64 n) : ((⟨#[32]⟩ : ByteArray) ++ mkB (Go.Lib.itoa n)).size = 1 + (mkB (Go.Lib.itoa n)).size ∧ (mkB (Go.Lib.itoa n)).size ≤ 21 := by
 refine ⟨by simp only [ByteArray.size_append]; rfl, ?_⟩
 rw [mkB_size]
 exact Go.Lib.itoa_length_le n h.1 h.2
theorem wordsGB_size (w : ByteArray) (l : List Int) (hl : ∀ x ∈ l, In64 x) : (wordsGB w l).size ≤ w.size + 22 * l.length := by
 induction l generalizing w with
 | nil => simp [wordsGB]
 | cons x l ih =>
  have h1 := ih (w ++ ((⟨#[32]⟩ : ByteArray) ++ mkB (Go.Lib.itoa x))) (fun y h => hl y (List.mem_cons_of_mem _ h))
  obtain ⟨h2, h3⟩ := itoa_size (hl x (List.mem_cons_self ..))
  have h4 : (w ++ ((⟨#[32]⟩ : ByteArray) ++ mkB (Go.Lib.itoa x))).size = w.size + ((⟨#[32]⟩ : ByteArray) ++ mkB (Go.Lib.itoa x)).size := by simp only [ByteArray.size_append]
  show (wordsGB (w ++ ((⟨#[32]⟩ : ByteArray) ++ mkB (Go.Lib.itoa x))) l).size ≤ _
  rw [List.length_cons]
  omega
theorem impl_wordsG_ev (w : ByteArray) (l : List Int) (hw : w.size ≤ 1000000) (hn : l.length ≤ 1000000) (hl : ∀ x ∈ l, In64 x) : Ev (fun k => impl_wordsG.f k w l) (wordsGB w l) := by
 unfold impl_wordsG.f
 have key : ∀ d i : Nat, i + d = l.length → Ev (fun k => impl_wordsG.l0 k (wordsGB w (l.take i)) l (l.length : Int) (i : Int)) (wordsGB w l) := by
  intro d
  induction d with
  | zero =>
   intro i hi
   rw [List.take_of_length_le (by omega)]
   refine Ev.step (f := fun _ => some (wordsGB w l)) (fun k => ?_) (Ev.now _)
   simp only [impl_wordsG.l0]
   rw [if_neg (by omega)]
  | succ d ih =>
   intro i hi
   have hlt : i < l.length := by omega
   have hn' := ih (i + 1) (by omega)
   rw [wordsGB_take _ _ _ hlt] at hn'
   have hx : In64 (rd l (i : Int)) := by
    have := hl l[i] (List.getElem_mem hlt)
    simpa [rd, hlt] using this
   obtain ⟨h1, h2⟩ := itoa_size hx
   have h3 := wordsGB_size w (l.take i) (fun x h => hl x (List.mem_of_mem_take h))
   have h5 : (l.take i).length ≤ 1000000 := by rw [List.length_take]; omega
   refine Ev.step (f := fun k => impl_wordsG.l0 k (wordsGB w (l.take i) ++ ((⟨#[32]⟩ : ByteArray) ++ mkB (Go.Lib.itoa (rd l (i : Int))))) l (l.length : Int) ((i + 1 : Nat) : Int)) (fun k => ?_) hn'
   simp only [impl_wordsG.l0]
   rw [if_pos (by omega), if_pos (by omega), if_pos (by omega), show impl_decimalG.f (rd l (i : Int)) = some (mkB (Go.Lib.itoa (rd l (i : Int)))) from if_pos hx, wr (by omega) (by omega)]
   simp only [Option.bind_some]
   rw [if_pos (by omega), if_pos (by omega)]
   rfl
 exact key l.length 0 (by omega)
theorem wordsGB_small (w : ByteArray) (l : List Int) (hl : ∀ x ∈ l, 0 ≤ x ∧ x < 100) : wordsGB w l = wordsB w l := by
 induction l generalizing w with
 | nil => rfl
 | cons n l ih =>
  have h := hl n (List.mem_cons_self ..)
  have e : mkB (Go.Lib.itoa n) = decS n := by
   rw [(dig_facts h.1 h.2).2.2.2]
   exact mkB_eta _
  show wordsGB (w ++ ((⟨#[32]⟩ : ByteArray) ++ mkB (Go.Lib.itoa n))) l = wordsB (w ++ ((⟨#[32]⟩ : ByteArray) ++ decS n)) l
  rw [e, ih _ (fun x h => hl x (List.mem_cons_of_mem _ h))]
theorem piB_range (s : ByteArray) (h : (piB s).2 = false) : In64 (piB s).1 := by
 cases hp : Go.Lib.parseIntB 64 s.data.toList with
 | ok v =>
  have e : piB s = (v, false) := by unfold piB; rw [hp]
  rw [e]
  have := Go.Lib.parseIntB_bounds hp
  unfold In64
  omega
 | range =>
  have e : piB s = (Go.Lib.intSat 64 s.data.toList, true) := by unfold piB; rw [hp]
  rw [e] at h
  cases h
 | _ =>
  have e : piB s = (0, true) := by unfold piB; rw [hp]
  rw [e] at h
  cases h
def parseAll : List (List UInt8) → Option (List Int)
 | [] => some []
 | p :: ps => if (piB (mkB p)).2 = true then none else (parseAll ps).bind fun vs => some ((piB (mkB p)).1 :: vs)
theorem parseAll_facts : ∀ {ps : List (List UInt8)} {vs : List Int}, parseAll ps = some vs → vs.length = ps.length ∧ ∀ x ∈ vs, In64 x
 | [], vs, h => by
  obtain rfl := Option.some.inj h
  exact ⟨rfl, fun x hx => by cases hx⟩
 | p :: ps, vs, h => by
  simp only [parseAll] at h
  split at h
  ·cases h
  ·rename_i c
   obtain ⟨ws, h1, h2⟩ := Option.bind_eq_some_iff.mp h
   obtain rfl := Option.some.inj h2
   obtain ⟨h3, h4⟩ := parseAll_facts h1
   refine ⟨by simp [h3], fun x hx => ?_⟩
   rcases List.mem_cons.mp hx with rfl | hx
   ·exact piB_range _ (by simpa using c)
   ·exact h4 x hx
def implB (w l : List UInt8) : Option (List Int) := (parseAll ((cutAt 32 l).drop 1)).bind fun vs => if (wordsGB (mkB w) vs).data.toList = l then some vs else none
theorem impl_readWords_ev (l w : List UInt8) (hl : l.length ≤ 5000) (hw : w.length ≤ 1000) : Ev (fun k => impl_readWords.f k (mkB l) (mkB w)) (((parseAll ((cutAt 32 l).drop 1)).getD [], (implB w l).isSome)) := by
 unfold impl_readWords.f
 have hsp : strings_Split.f (mkB l) (⟨#[32]⟩ : ByteArray) = some ((cutAt 32 l).map mkB) := by
  unfold strings_Split.f
  rw [if_pos ⟨by rw [mkB_size]; omega, by decide⟩, splitL_ev, mkB_data]
 obtain ⟨p, ps, e⟩ := cutAt_ne 32 l
 have hlen := cutAt_len 32 l
 have hsh := cutAt_short 32 l
 rw [hsp]
 unfold implB
 rw [e] at hlen hsh ⊢
 have h1 : (1 : Int) ≤ ((mkB p :: ps.map mkB).length : Int) := by simp; omega
 simp only [Option.bind_some, List.map_cons, if_pos h1, List.drop_succ_cons, List.drop_zero]
 have key : ∀ d i : Nat, ∀ acc : List Int, i + d = ps.length → acc.length = i → (∀ x ∈ acc, In64 x) → Ev (fun k => impl_readWords.l0 k (mkB l) (mkB w) acc (ps.map mkB) ((ps.map mkB).length : Int) (i : Int)) (match parseAll (ps.drop i) with | none => ([], false) | some vs => (acc ++ vs, decide ((wordsGB (mkB w) (acc ++ vs)).data.toList = l))) := by
  intro d
  induction d with
  | zero =>
   intro i acc hi hacc hr
   rw [List.drop_eq_nil_of_le (by omega)]
   simp only [parseAll, List.append_nil]
   refine Ev.step (f := fun k => (impl_wordsG.f k (mkB w) acc).bind fun t508 => (some (acc, (t508.toList == (mkB l).toList)))) (fun k => ?_) (Ev.bind (impl_wordsG_ev (mkB w) acc (by rw [mkB_size]; omega) (by simp only [List.length_cons] at hlen; omega) hr) ?_)
   ·simp only [impl_readWords.l0]
    rw [if_neg (by rw [List.length_map]; omega)]
   ·rw [toList_mkB, ByteArray.toList_eq, beq_dec]
    exact Ev.now _
  | succ d ih =>
   intro i acc hi hacc hr
   have hlt : i < ps.length := by omega
   have hx : rdOf ByteArray.empty (ps.map mkB) (i : Int) = mkB ps[i] := by simp [rdOf, hlt]
   have hpi : strconv_ParseInt_70.f (mkB ps[i]) 10 64 = some (piB (mkB ps[i])) := if_pos ⟨⟨rfl, rfl⟩, by rw [mkB_size]; have := hsh ps[i] (List.mem_cons_of_mem _ (List.getElem_mem hlt)); omega⟩
   rw [List.drop_eq_getElem_cons hlt]
   simp only [parseAll]
   by_cases c : (piB (mkB ps[i])).2 = true
   ·simp only [if_pos c]
    refine Ev.step (f := fun _ => some (([] : List Int), false)) (fun k => ?_) (Ev.now _)
    simp only [impl_readWords.l0]
    rw [if_pos (by rw [List.length_map]; omega), if_pos (by omega), if_pos (by rw [List.length_map]; omega), hx, hpi]
    simp only [Option.bind_some, if_pos c]
   ·simp only [if_neg c]
    have hn := ih (i + 1) (acc ++ [(piB (mkB ps[i])).1]) (by omega) (by simp; omega) (fun x hx => by
     rcases List.mem_append.mp hx with hx | hx
     ·exact hr x hx
     ·obtain rfl := List.mem_singleton.mp hx
      exact piB_range _ (by simpa using c))
    have e2 : (match (parseAll (ps.drop (i + 1))).bind fun vs => some ((piB (mkB ps[i])).1 :: vs) with | none => (([] : List Int), false) | some vs => (acc ++ vs, decide ((wordsGB (mkB w) (acc ++ vs)).data.toList = l))) = (match parseAll (ps.drop (i + 1)) with | none => (([] : List Int), false) | some vs => (acc ++ [(piB (mkB ps[i])).1] ++ vs, decide ((wordsGB (mkB w) (acc ++ [(piB (mkB ps[i])).1] ++ vs)).data.toList = l))) := by
     cases parseAll (ps.drop (i + 1)) with
     | none => rfl
     | some vs => simp
    rw [e2]
    refine Ev.step (fun k => ?_) hn
    simp only [impl_readWords.l0]
    rw [if_pos (by rw [List.length_map]; omega), if_pos (by omega), if_pos (by rw [List.length_map]; omega), hx, hpi]
    simp only [Option.bind_some, if_neg c]
    rw [if_pos (by simp only [List.length_cons] at hlen; omega), wr (by omega) (by simp only [List.length_cons] at hlen; omega)]
    rfl
 have := key ps.length 0 [] (by omega) rfl (fun x hx => by cases hx)
 rw [List.drop_zero] at this
 cases e3 : parseAll ps with
 | none => rw [e3] at this; exact this
 | some vs =>
  rw [e3] at this
  simp only [List.nil_append] at this
  simp only [Option.getD_some, Option.bind_some]
  by_cases c : (wordsGB (mkB w) vs).data.toList = l
  ·simp only [decide_eq_true c] at this
   simp only [if_pos c, Option.isSome_some]
   exact this
  ·simp only [decide_eq_false c] at this
   simp only [if_neg c, Option.isSome_none]
   exact this
theorem implB_parse {w l : List UInt8} {vs : List Int} (h : implB w l = some vs) : (parseAll ((cutAt 32 l).drop 1)).getD [] = vs ∧ vs.length ≤ l.length := by
 unfold implB at h
 obtain ⟨us, h1, h2⟩ := Option.bind_eq_some_iff.mp h
 split at h2
 ·obtain rfl := Option.some.inj h2
  have := (parseAll_facts h1).1
  have hlen := cutAt_len 32 l
  rw [List.length_drop] at this
  exact ⟨by rw [h1]; rfl, by omega⟩
 ·cases h2
theorem implB_line (w : List UInt8) (l : List Int) (hw : (32 : UInt8) ∉ w) (hl : ∀ x ∈ l, 0 ≤ x ∧ x < 100) : implB w (lineL w l) = some l := by
 unfold implB
 rw [cut_line w l hw hl]
 have e : parseAll (l.map dig) = some l := by
  clear hw
  induction l with
  | nil => rfl
  | cons n l ih =>
   have h := hl n (List.mem_cons_self ..)
   have e2 : mkB (dig n) = decS n := mkB_eta _
   simp only [List.map_cons, parseAll, e2, (dig_facts h.1 h.2).2.2.1, ih (fun x hx => hl x (List.mem_cons_of_mem _ hx))]
   rfl
 rw [List.drop_succ_cons, List.drop_zero, e, Option.bind_some, wordsGB_small _ _ hl, wordsB_data, mkB_data, if_pos rfl]
def implLines (w : List UInt8) : List (List UInt8) → Option (List (List Int))
 | [] => some []
 | l :: ls => (implB w l).bind fun r => (implLines w ls).bind fun rs => some (r :: rs)
theorem implLines_map (rows : List (List Int)) (hr : ∀ r ∈ rows, ∀ x ∈ r, 0 ≤ x ∧ x < 100) : implLines wRow (rows.map (lineL wRow)) = some rows := by
 induction rows with
 | nil => rfl
 | cons r rows ih =>
  simp only [List.map_cons, implLines, implB_line wRow r (by decide) (hr r (List.mem_cons_self ..)), ih (fun q hq => hr q (List.mem_cons_of_mem _ hq)), Option.bind_some]
def readGB (LS : List (List UInt8)) (a0 : ByteArray) : Int × Int × List (List Int) × Int := match LS with
 | [] => badR
 | h :: ls => match implB wMat h with
  | some [p, c] => (match implLines wRow ls.dropLast with
   | some rows => if (matTextB p c rows).data.toList = a0.data.toList then (p, c, rows, 0) else badR
   | none => badR)
  | _ => badR
theorem impl_rows_ev (a0 : ByteArray) (ls : List (List UInt8)) (p c : Int) (hn : ls.length ≤ 5000) (hl : ∀ l ∈ ls, l.length ≤ 5000) :
  Ev (fun k => impl_ReadMatrix.l0 k a0 (ls.map mkB) ((ls.map mkB).length : Int) 0 p c []) (match implLines wRow ls with | some rows => if (matTextB p c rows).data.toList = a0.data.toList then (p, c, rows, 0) else badR | none => badR) := by
 have key : ∀ d i : Nat, ∀ acc : List (List Int), i + d = ls.length → acc.length = i → (∀ r ∈ acc, r.length ≤ 1048576) → Ev (fun k => impl_ReadMatrix.l0 k a0 (ls.map mkB) ((ls.map mkB).length : Int) (i : Int) p c acc) (match implLines wRow (ls.drop i) with | some rows => if (matTextB p c (acc ++ rows)).data.toList = a0.data.toList then (p, c, acc ++ rows, 0) else badR | none => badR) := by
  intro d
  induction d with
  | zero =>
   intro i acc hi hacc hr
   rw [List.drop_eq_nil_of_le (by omega)]
   simp only [implLines, List.append_nil]
   refine Ev.step (f := fun k => (impl_MatrixText.f k p c acc).bind fun t533 => (if t533.toList = a0.toList then (some (p, c, acc, 0)) else (some (0, 0, ([] : List (List Int)), 5)))) (fun k => ?_) (Ev.bind (impl_MatrixText_ev p c acc (by omega) hr) ?_)
   ·simp only [impl_ReadMatrix.l0]
    rw [if_neg (by rw [List.length_map]; omega)]
   ·simp only [ByteArray.toList_eq]
    by_cases c2 : (matTextB p c acc).data.toList = a0.data.toList
    ·simp only [if_pos c2]
     exact Ev.now _
    ·simp only [if_neg c2]
     exact Ev.now _
  | succ d ih =>
   intro i acc hi hacc hr
   have hlt : i < ls.length := by omega
   have hx : rdOf ByteArray.empty (ls.map mkB) (i : Int) = mkB ls[i] := by simp [rdOf, hlt]
   rw [List.drop_eq_getElem_cons hlt]
   have hl2 := hl _ (List.getElem_mem hlt)
   refine Ev.step (f := fun k => (impl_readWords.f k (mkB ls[i]) (mkB wRow)).bind fun bt526 => (if bt526.2 = true then (if acc.length < 5864062014805 then (impl_ReadMatrix.l0 k a0 (ls.map mkB) ((ls.map mkB).length : Int) ((i + 1 : Nat) : Int) p c (acc ++ [bt526.1])) else (none)) else (some badR))) (fun k => ?_) (Ev.bind (impl_readWords_ev ls[i] wRow hl2 (by decide)) ?_)
   ·simp only [impl_ReadMatrix.l0]
    rw [if_pos (by rw [List.length_map]; omega), if_pos (by omega), if_pos (by rw [List.length_map]; omega), hx, wr (by omega) (by omega)]
    rfl
   ·simp only [implLines]
    cases e : implB wRow ls[i] with
    | none =>
     simp only [Option.isSome_none, Bool.false_eq_true, if_false, Option.bind_none]
     exact Ev.now _
    | some v =>
     obtain ⟨h1, h2⟩ := implB_parse e
     simp only [Option.isSome_some, if_true, Option.bind_some, h1, if_pos (show acc.length < 5864062014805 by omega)]
     have := ih (i + 1) (acc ++ [v]) (by omega) (by simp; omega) (fun r hr2 => by
      rcases List.mem_append.mp hr2 with hr2 | hr2
      ·exact hr r hr2
      ·obtain rfl := List.mem_singleton.mp hr2
       omega)
     cases e2 : implLines wRow (ls.drop (i + 1)) with
     | none => rw [e2] at this; exact this
     | some rows =>
      rw [e2] at this
      simp only [List.append_assoc, List.singleton_append] at this
      exact this
 have := key ls.length 0 [] (by omega) rfl (fun r hr => by cases hr)
 simpa using this
theorem impl_ReadMatrix_ev (a0 : ByteArray) (hs : ¬ (a0.size : Int) > 4000) : Ev (fun k => impl_ReadMatrix.f k a0) (readGB (cutAt 10 a0.data.toList) a0) := by
 have hsz := size_data a0
 unfold impl_ReadMatrix.f
 simp only [if_neg hs]
 have hsp : strings_Split.f a0 (⟨#[10]⟩ : ByteArray) = some ((cutAt 10 a0.data.toList).map mkB) := by
  unfold strings_Split.f
  rw [if_pos ⟨by omega, by decide⟩, splitL_ev]
 rw [hsp]
 have hlen := cutAt_len 10 a0.data.toList
 have hsh := cutAt_short 10 a0.data.toList
 obtain ⟨h, ls, e⟩ := cutAt_ne 10 a0.data.toList
 rw [e] at hlen hsh ⊢
 have hx : rdOf ByteArray.empty ((h :: ls).map mkB) 0 = mkB h := rfl
 have h0 : (0 : Int) < (((h :: ls).map mkB).length : Int) := by simp
 simp only [Option.bind_some, hx, if_pos h0]
 have bad : ∀ v, Ev (fun k => impl_ReadMatrix.j0 k a0 ((h :: ls).map mkB) v true) badR := fun v => Ev.step (f := fun _ => some badR) (fun k => by simp only [impl_ReadMatrix.j0, if_true]; rfl) (Ev.now _)
 rw [List.length_cons] at hlen
 refine Ev.bind (impl_readWords_ev h wMat (by have := hsh h (List.mem_cons_self ..); omega) (by decide)) ?_
 cases e2 : implB wMat h with
 | none =>
  simp only [Option.isSome_none, Bool.false_eq_true, if_false]
  rw [show readGB (h :: ls) a0 = badR by simp [readGB, e2]]
  exact bad _
 | some v =>
  obtain ⟨h1, h2⟩ := implB_parse e2
  simp only [Option.isSome_some, if_true, h1]
  by_cases c2 : (v.length : Int) = 2
  ·obtain ⟨p, c, rfl⟩ : ∃ p c, v = [p, c] := by
    match v, c2 with
    | [p, c], _ => exact ⟨p, c, rfl⟩
    | [], h => simp at h
    | [_], h => simp at h
    | _ :: _ :: _ :: _, h => simp at h; omega
   have hd : ((([p, c] : List Int).length : Int) != 2) = false := rfl
   rw [hd]
   have hrun := impl_rows_ev a0 ls.dropLast p c (by rw [List.length_dropLast]; omega) (fun l hl => by have := hsh l (List.mem_cons_of_mem _ ((List.dropLast_sublist ls).subset hl)); omega)
   rw [show readGB (h :: ls) a0 = (match implLines wRow ls.dropLast with | some rows => if (matTextB p c rows).data.toList = a0.data.toList then (p, c, rows, 0) else badR | none => badR) by simp [readGB, e2]]
   refine Ev.step (fun k => ?_) hrun
   simp only [impl_ReadMatrix.j0]
   have hL : (((h :: ls).map mkB).length : Int) = (ls.length : Int) + 1 := by simp
   have hm : mx 1 (wrap64 ((((h :: ls).map mkB).length : Int) - 1)) = ((max 1 ls.length : Nat) : Int) := by
    rw [hL, wr (by omega) (by omega)]
    unfold mx
    split <;> omega
   rw [if_neg (by decide), if_pos (by simp), if_pos (by simp), hm, if_pos (by omega), if_pos (by rw [hL]; omega)]
   have ht : ((((h :: ls).map mkB).take (((max 1 ls.length : Nat) : Int)).toNat).drop 1) = ls.dropLast.map mkB := by
    rw [Int.toNat_natCast]
    cases ls with
    | nil => rfl
    | cons l ls =>
     rw [show max 1 (l :: ls).length = (l :: ls).length - 1 + 1 by rw [List.length_cons]; omega, List.map_cons, List.take_succ_cons, List.drop_succ_cons, List.drop_zero, List.dropLast_eq_take, List.map_take]
   rw [ht]
   rfl
  ·rw [show ((v.length : Int) != 2) = true by simpa using c2]
   have : readGB (h :: ls) a0 = badR := by
    match v, c2, e2 with
    | [], _, e2 => simp [readGB, e2]
    | [_], _, e2 => simp [readGB, e2]
    | [_, _], h, _ => exact absurd rfl h
    | _ :: _ :: _ :: _, _, e2 => simp [readGB, e2]
   rw [this]
   exact bad _
theorem readGB_text {p c : Int} {rows : List (List Int)} (h : validMB p c rows = true) : readGB (cutAt 10 (textL p c rows)) (matTx (matHead p c) rows) = (p, c, rows, 0) := by
 obtain ⟨h1, h2⟩ := valid_small h
 rw [cut_matrix h]
 have e : matTextB p c rows = matTx (matHead p c) rows := if_pos h
 simp only [readGB, List.cons_append, implB_line wMat [p, c] (by decide) h1, List.dropLast_concat, implLines_map rows h2, e, if_true]
theorem readGB_sound (a0 : ByteArray) : readGB (cutAt 10 a0.data.toList) a0 = badR ∨ ∃ p c rows, readGB (cutAt 10 a0.data.toList) a0 = (p, c, rows, 0) ∧ validMB p c rows = true ∧ matTx (matHead p c) rows = a0 := by
 obtain ⟨h, ls, e⟩ := cutAt_ne 10 a0.data.toList
 rw [e]
 unfold readGB
 simp only
 split
 ·rename_i p c hv
  split
  ·rename_i rows hr
   split
   ·rename_i ht
    cases hval : validMB p c rows with
    | true =>
     refine Or.inr ⟨p, c, rows, rfl, hval, bytes_ext ?_⟩
     rw [← ht]
     unfold matTextB
     rw [if_pos hval]
    | false =>
     exfalso
     unfold matTextB at ht
     rw [hval] at ht
     have h0 : a0.data.toList = [] := ht.symm
     rw [h0] at e
     have e1 : ([] : List UInt8) = h := (List.cons.inj e).1
     subst e1
     simp [implB, cutAt, parseAll] at hv
   ·exact Or.inl rfl
  ·exact Or.inl rfl
 ·exact Or.inl rfl
theorem read_both (a0 : ByteArray) : readGB (cutAt 10 a0.data.toList) a0 = readB (cutAt 10 a0.data.toList) ∧ (readB (cutAt 10 a0.data.toList) = badR ∨ ∃ p c rows, readB (cutAt 10 a0.data.toList) = (p, c, rows, 0) ∧ validMB p c rows = true) := by
 have key : ∀ p c rows, validMB p c rows = true → textL p c rows = a0.data.toList → readGB (cutAt 10 a0.data.toList) a0 = readB (cutAt 10 a0.data.toList) ∧ readB (cutAt 10 a0.data.toList) = (p, c, rows, 0) := by
  intro p c rows hv ht
  have e : matTx (matHead p c) rows = a0 := bytes_ext (by rw [text_data]; exact ht)
  have h1 := readGB_text hv
  have h2 := readB_text hv
  rw [ht] at h1 h2
  rw [e] at h1
  exact ⟨h1.trans h2.symm, h2⟩
 rcases readB_sound a0.data.toList with h | ⟨p, c, rows, h, hv, ht⟩
 ·rcases readGB_sound a0 with h2 | ⟨p, c, rows, h2, hv, ht⟩
  ·exact ⟨h2.trans h.symm, Or.inl h⟩
  ·have := key p c rows hv (by rw [← text_data, ht])
   exact ⟨this.1, Or.inr ⟨p, c, rows, this.2, hv⟩⟩
 ·have := key p c rows hv ht
  exact ⟨this.1, Or.inr ⟨p, c, rows, this.2, hv⟩⟩
end Go.Proofs.YtijmdlhcidjpmaaDoor.P

/- For every text the program's ReadMatrix and the reference's read alike, and the result is memory of its own. -/
namespace Go.Proofs.YtijmdlhcidjpmaaDoor.Pure
open Go.RowKit Go.Proofs.YtijmdlhcidjpmaaDoor.P Go.Proofs.YtijmdlhcidjpmaaDoorW.PrintWords Go.Proofs.YtijmdlhcidjpmaaDoorW.PrintLast Go.Proofs.YtijmdlhcidjpmaaDoorW.PrintMore
set_option linter.unusedVariables false
set_option linter.unusedSimpArgs false
theorem FnExactReadMatrix : laws_FnExactReadMatrix.Pure := by
 intro a0 hx
 by_cases h : (a0.size : Int) ≤ 1048576
 ·have both : ∃ r1 r2 r3 r4, Ev (fun k => spec_ReadMatrix.f k a0) (r1, r2, r3, r4) ∧ Ev (fun k => impl_ReadMatrix.f k a0) (r1, r2, r3, r4) ∧ r3.length ≤ 20 ∧ (∀ r ∈ r3, r.length ≤ 12) ∧ allLen r3 ≤ 240 := by
   by_cases hs : (a0.size : Int) > 4000
   ·refine ⟨0, 0, [], 2, ?_, ?_, by simp, by simp, by simp [allLen]⟩
    ·unfold spec_ReadMatrix.f
     simp only [if_pos hs]
     exact Ev.now _
    ·unfold impl_ReadMatrix.f
     simp only [if_pos hs]
     exact Ev.now _
   ·have e1 := spec_ReadMatrix_ev a0 hs
    have e2 := impl_ReadMatrix_ev a0 hs
    obtain ⟨b1, b2⟩ := read_both a0
    rw [b1] at e2
    rcases b2 with b2 | ⟨p, c, rows, b2, hv⟩
    ·rw [b2] at e1 e2
     exact ⟨0, 0, [], 5, e1, e2, by simp, by simp, by simp [allLen]⟩
    ·rw [b2] at e1 e2
     obtain ⟨h1, h2, h3⟩ := mat_facts hv
     refine ⟨p, c, rows, 0, e1, e2, h2, fun r hr => (h3 r hr).1, ?_⟩
     have : ∀ (l : List (List Int)), (∀ r ∈ l, r.length ≤ 12) → allLen l ≤ 12 * l.length := by
      intro l
      induction l with
      | nil => intro _; simp [allLen]
      | cons r l ih =>
       intro hr
       have := ih (fun q hq => hr q (List.mem_cons_of_mem _ hq))
       have := hr r (List.mem_cons_self ..)
       unfold allLen at *
       simp only [List.map_cons, List.sum_cons, List.length_cons] at *
       omega
     have := this rows (fun r hr => (h3 r hr).1)
     omega
  obtain ⟨r1, r2, r3, r4, e1, e2, z1, z2, z3⟩ := both
  have z4 : ∀ r ∈ r3, r.length ≤ 1048576 := fun r hr => Nat.le_trans (z2 r hr) (by omega)
  obtain ⟨k, a1, a2, a3, a4, a5⟩ := From.now (From.and e1 (From.and e2 (From.and (eqMatrix_same r1 r2 r3 (by omega) z4) (From.and (markMatrix_ev r1 r2 r3 1 (by omega) (by omega) (by omega)) (heldMatrix_ev r1 r2 r3 1 (by omega) (by omega) (by omega))))))
  exact Or.inr ⟨k, r1, r2, r3, r4, _, _, decide_eq_false (by omega), decide_eq_false (by omega), a1, a2, a3, a4, a5, decide_eq_false (by omega), a2, a3, a5, decide_eq_false (by omega)⟩
 ·exact Or.inl ⟨0, decide_eq_true (by omega), decide_eq_true (by omega)⟩
end Go.Proofs.YtijmdlhcidjpmaaDoor.Pure

namespace Go.Proofs.YtijmdlhcidjpmaaDoor.P
open Go.RowKit Go.Proofs.YtijmdlhcidjpmaaDoorW.PrintWords Go.Proofs.YtijmdlhcidjpmaaDoorW.PrintLast Go.Proofs.YtijmdlhcidjpmaaDoorW.PrintMore
attribute [local go_sem] max2_int min2_int max_two min_two max_three min_three max_four min_four
set_option linter.unusedVariables false
set_option linter.unusedSimpArgs false
section
variable {H : Type} {enc : TypeId × Value → H}
theorem handed_and_shaped {a : Assume} {C : Checked} {os : Os} {f : FuncId} {fn : Func} {s : ChangeSpec} {conds : List PathCond} {apart fresh handsOn again : Bool} {X : World → Array Value → Prop}
  (hX : ∀ (w w' : World) (args : Array Value), w.heap = w'.heap → X w args → X w' args)
  (own : ownKnob C.prog.godebug = none) (started : os.Started) (noInit : C.prog.inits.idxOf? f = none) (hfn : C.prog.funcs[f]? = some fn)
  (witness : ∃ (w : World) (tape : Tape) (i : Input), w.os = os ∧ (w.forCall tape i).Shaped C.prog ∧ i.vars = [] ∧ Input.okWide C.prog (w.forCall tape i) .any w.heap.size f i ∧
   ((s.pre enc C.prog fn conds apart (w.forCall tape i).memory i.args ∧ X (w.forCall tape i).memory i.args) ∧ sizedMet enc C.prog fn (OpenSpec.ofChange s) apart (w.forCall tape i).memory i.args) ∧ a.holds C.prog (lone (Frame.enter C.prog f i.args .normal) [] (w.forCall tape i)))
  (contract : ∀ (W : World) (base : Nat) (args : Array Value) (ds gs : List (DataW H)) (before : List MemPlace),
   (∀ (j : Nat) t v, fn.params[j]? = some t → args[j]? = some v → Value.okWide C.prog W .any base t v) →
   DataW.Whole enc C.prog fn.params.toList s.vars apart W args.toList ds gs before →
   conds.all (PathCond.test C.prog ⟨fn.params.toList, ds, s.plain.varTypes C.prog, gs⟩) = true →
   W.ShapedOpen C.prog → X W args →
   a.holds C.prog (lone (Frame.enter C.prog f args .normal) [] W) →
   Calls C.prog f args W fun e W' => ∃ v, e = .returned v ∧ s.post enc C.prog fn apart fresh handsOn again W args v W') :
  ReturnsInHanded a C os f .any (fun w args => (s.pre enc C.prog fn conds apart w args ∧ X w args) ∧ sizedMet enc C.prog fn (OpenSpec.ofChange s) apart w args) (s.post enc C.prog fn apart fresh handsOn again) := by
 refine returnsInHanded_of_calls own started noInit witness ?_
 intro w tape i _ hsh _ hok hpre hholds
 obtain ⟨_, _, _, fn', hfn', _, _, _, _, hval⟩ := hok
 have e : fn' = fn := Option.some.inj (hfn'.symm.trans hfn)
 subst e
 obtain ⟨⟨⟨ds, gs, before, hw, hc⟩, hx⟩, _⟩ := hpre
 have hw' := DataW.Whole.of_heap (w' := w.forCall tape i) (by rfl) hw
 refine (contract (w.forCall tape i) w.heap.size i.args ds gs before hval hw' hc hsh (hX _ _ _ (by rfl) hx) hholds).mono fun e W' ⟨v, he, hp⟩ => ?_
 subst he
 exact ChangeSpec.post_blind hp
end
theorem errStar : "*" ++ "errors.errorString" = "*errors.errorString" := by decide
theorem errRow (u : TypeId) (h : Tryd.prog.typeName? 3 u = some "*errors.errorString") : u = 185 :=
 typeName_ptr_named (nm := "errors.errorString") (by rw [errStar]; kernel_rfl) (by kernel_rfl) (by decide) u (by rw [errStar]; exact h)
theorem glob_of {W : World} {t0 t1 : List UInt8} {r : List (String × DataW Unit)} (hS : W.ShapedOpen Tryd.prog) (hT : Go.Lib.TabIs Tryd.prog W "internal/strconv.uint64pow10" .u64 Go.Lib.pow10Tab)
  (hL : laidMet Tryd.prog (("strconv.ErrRange", .iface "*errors.errorString" (.ptr (.agg [.lit (.string t0)]))) :: ("strconv.ErrSyntax", .iface "*errors.errorString" (.ptr (.agg [.lit (.string t1)]))) :: r) W) : Glob W := by
 have hm := cell_of_shapedOpen_int (P := Tryd.prog) (g := 3) (t := 3) (k := .i64) (zero := #[.int .i64 0]) hS (of_decide_eq_true (by kernel_rfl)) (by kernel_rfl) rfl (by kernel_rfl) (by kernel_rfl) Tryd.underlying3
 have g0 : Tryd.prog.globalNamed "strconv.ErrRange" = some 1 := by kernel_rfl
 have g1 : Tryd.prog.globalNamed "strconv.ErrSyntax" = some 0 := by kernel_rfl
 obtain ⟨a0, a1, _, _, _, _, _, _, h0, h1, _⟩ := laid_sentinels2 (g0 := 1) (g1 := 0) (ti := 102) (tp := 185) (te := 187) (ts := 9) hL g0 (by kernel_rfl) g1 (by kernel_rfl) Tryd.underlying102 errRow Tryd.underlying185 Tryd.underlying187 rfl rfl Tryd.underlying9 (by kernel_rfl) (by kernel_rfl)
 exact ⟨hm, ⟨_, World.var?_cell g1 h1 0, Or.inr ⟨_, _, rfl⟩⟩, ⟨_, World.var?_cell g0 h0 0, Or.inr ⟨_, _, rfl⟩⟩, hT⟩
end Go.Proofs.YtijmdlhcidjpmaaDoor.P

/- The row of the law FnExactReadMatrix: whatever its arguments, it answers true, and they read as before. No condition. -/
namespace Go.Proofs.YtijmdlhcidjpmaaDoor.fnExactReadMatrix
open Go.ChangeShapes Go.WideShapes Go.ChangeAt Go.RowKit Go.Proofs.YtijmdlhcidjpmaaDoor.P Go.Proofs.YtijmdlhcidjpmaaDoorW.PrintWords Go.Proofs.YtijmdlhcidjpmaaDoorW.PrintLast Go.Proofs.YtijmdlhcidjpmaaDoorW.PrintMore
open Go.ChangeMaps (open_string shut_string)
set_option linter.unusedVariables false
theorem own : ownKnob Tryd.prog.godebug = none := by kernel_rfl
def laids : List (String × DataW Unit) := Rows.fnExactReadMatrixRow.laid
noncomputable def doorW (os : Os) : World :=
 { World.doorLaid Tryd.prog 400 os with heap := (World.doorLaid Tryd.prog 400 os).heap.modify 4 fun
   | .cells _ t fz => .cells (Go.Pinned.utf8FirstZ.map fun (n : Nat) => Value.int .u8 n).toArray t fz
   | o => o }
theorem door_met (os : Os) (args : Array Value) : laidMetH Tryd.prog laids ((doorW os).forCall (fun _ _ => 0) ⟨#[], args, []⟩).memory :=
 laidMetH_of_parts3 (fuel := 8) (laidMet_of_run' 8 (by kernel_rfl) (by kernel_rfl)) (by kernel_rfl) (by kernel_rfl)
theorem glob_met {W : World} (hS : W.ShapedOpen Tryd.prog) (hL : laidMetH Tryd.prog laids W) : P.Glob W := by
 have hL2 := (laidMetH_iff.1 (laidMetH.filter (fun x => x.1 == "strconv.ErrRange" || x.1 == "strconv.ErrSyntax") hL)).1
 have e : (laids.filter fun x => x.1 == "strconv.ErrRange" || x.1 == "strconv.ErrSyntax").filter (fun x => x.2.handleName?.isNone) = [("strconv.ErrRange", Rows.laid_strconv_ErrRange), ("strconv.ErrSyntax", Rows.laid_strconv_ErrSyntax)] := by kernel_rfl
 rw [e] at hL2
 have hL3 := (laidMetH_iff.1 (laidMetH.filter (fun x => x.1 == "internal/strconv.uint64pow10") hL)).1
 have e3 : (laids.filter fun x => x.1 == "internal/strconv.uint64pow10").filter (fun x => x.2.handleName?.isNone) = [("internal/strconv.uint64pow10", Go.Lib.tabData .u64 Go.Lib.pow10Tab)] := by kernel_rfl
 rw [e3] at hL3
 exact P.glob_of hS (Go.Lib.tabIs_of_head (g := 2) (t := 177) (e := 151) (n := 20) (by kernel_rfl) (by kernel_rfl) Tryd.underlying177 Tryd.underlying151 (by kernel_rfl) (by kernel_rfl) hL3) hL2
theorem laidOut : laidOutB Tryd.prog = true := by kernel_rfl
set_option maxRecDepth 100000 in
theorem lifted (os : Os) (started : os.Started) (H : Type) (enc : TypeId × Value → H) :
  ReturnsInHanded {} Tryd.checked os 7 .any (fun w args => (Rows.fnExactReadMatrixSpec.pre enc Tryd.prog Tryd.f7 Rows.fnExactReadMatrixRow.domain false w args ∧ laidMetH Tryd.prog laids w) ∧ sizedMet enc Tryd.prog Tryd.f7 (OpenSpec.ofChange Rows.fnExactReadMatrixSpec) false w args) (Rows.fnExactReadMatrixSpec.post enc Tryd.prog Tryd.f7 false true false false) := by
 refine P.handed_and_shaped (C := Tryd.checked) (X := fun w _ => laidMetH Tryd.prog laids w) (fun _ _ _ hh h => h.of_heap hh) own started (by kernel_rfl) Tryd.func7
  (ChangeSpec.witness_shaped (enc := enc) (C := Tryd.checked) (os := os) (X := fun w _ => laidMetH Tryd.prog laids w) false (doorW os) #[.string ByteArray.empty] 8 rfl (World.shaped_of_RefB (by kernel_rfl) (by kernel_rfl)) (by kernel_rfl) (by kernel_rfl) (by kernel_rfl) (door_met os _)) ?_
 intro W base args ds gs before hval0 hW _ hS hL _
 have hval : ∀ (j : Nat) t v, Tryd.f7.params[j]? = some t → args[j]? = some v → Value.okWide Tryd.prog W .any base t v := hval0
 have hW' := hW
 obtain ⟨p, q, hA0, hV, rfl, hfz, hnd⟩ := hW
 have hA : DataW.TrodAll enc Tryd.prog W 0 (fun _ => true) true Tryd.f7.params.toList args.toList ds p := hA0
 rw [Tryd.params7] at hA hval
 obtain ⟨v0, vs0, d0, ds0, p0, q0, hargs, rfl, rfl, h0, r0⟩ := trodAll_cons hA
 obtain ⟨rfl, rfl, rfl⟩ := trodAll_nil r0
 obtain rfl : args = #[v0] := by cases args; simp_all
 obtain ⟨rfl, rfl⟩ := trodVars_none hV
 obtain ⟨a0, rfl, rfl, rfl, w0⟩ := open_string Tryd.underlying9 (hval 0 9 v0 rfl rfl) h0
 clear hA0 hval0
 refine (P.laws_FnExactReadMatrix.walk Pure.FnExactReadMatrix a0  W  w0 (glob_met hS hL)).mono fun e W' ⟨he, bel⟩ => ?_
 subst he
 exact ⟨_, rfl, _, _, _, [], _, [], hW', trodAll_mk1 (shut_bool Tryd.underlying4 _), (trodAll_cons_mk (shut_string Tryd.underlying9 w0) trodAll_mk0), rfl, bel.frame _, fun h => by cases h⟩
theorem over : Rows.fnExactReadMatrixRow.holds Tryd.pinned (OpenSpec.ofChange Rows.fnExactReadMatrixSpec) :=
 OpenClaim.holds_of_wide 7 Tryd.f7 rfl rfl rfl rfl rfl rfl rfl ⟨rfl, rfl, rfl, rfl, rfl⟩ rfl rfl rfl rfl rfl (by kernel_rfl) Tryd.func7 (by kernel_rfl)
  (of_decide_eq_true (by kernel_rfl)) (by unfold Func.isWrapper; first | (rw [if_pos (by decide +kernel)]; kernel_rfl) | (rw [if_neg (by decide +kernel)]; exact ⟨rfl, rfl⟩))
  (fun os started H enc _ => lifted os started H enc)
theorem proved : Rows.FnExactReadMatrixSaid := over
#print axioms proved
end Go.Proofs.YtijmdlhcidjpmaaDoor.fnExactReadMatrix
namespace Go.Proofs.YtijmdlhcidjpmaaDoor
theorem fnExactReadMatrix_holds : Rows.FnExactReadMatrixCardSaid :=
 Claim7.holds_tied_plain_at .later [] [.data, .data, .data, .data, .sentinel, .sentinel, .pinned] true (true, "76b177948d0ae43f40923df544757246c1822bc94295df3ba3acdd2cf38c500f") true
  fnExactReadMatrix.proved (fun _ h => by cases h) (by kernel_rfl) (fun _ h => by cases h) fnExactReadMatrix_row_tie rfl ⟨rfl, rfl⟩ (by kernel_rfl) rfl
  (fun f fn hf hfn => by
   obtain rfl : f = 7 := Option.some.inj ((show Tryd.prog.funcNamed "loop.example/g01117/laws.FnExactReadMatrix" = some 7 by kernel_rfl).symm.trans hf) |>.symm
   obtain rfl : fn = Tryd.f7 := (Option.some.inj (Tryd.func7.symm.trans hfn)).symm
   exact ⟨by kernel_rfl, fun j t ht => by
    rw [Tryd.params7] at ht
    have hm : t ∈ [9] := by simpa using Array.mem_of_getElem? ht
    have hall : ([9].all fun u => !Tryd.prog.wantsStandIn u) = true := by kernel_rfl
    exact (show Tryd.prog.wantsStandIn t = false by simpa using List.all_eq_true.1 hall t hm)⟩)
  (by kernel_rfl)
#print axioms fnExactReadMatrix_holds
end Go.Proofs.YtijmdlhcidjpmaaDoor
