/- For all arguments the program's GateText and the reference's answer alike, and the argument stays. This text: part 1 of what it rests on: functions of the translation as plain Lean functions, and that the machine's calls come to their answers. -/
import Derived.ArgAppend
import Derived.Below
import Derived.BigQuiet
import Derived.DataShut
import Derived.Deep.AppendLies
import Derived.Deep.CutBlock
import Derived.Deep.DeepCutAuto
import Derived.Deep.Draws
import Derived.Deep.LoopGhost
import Derived.Deep.OwnRows
import Derived.Deep.QuietTactic
import Derived.Deep.RegionHeld3
import Derived.KernelRfl
import Derived.Laws.BitsLemmas
import Derived.Laws.BytesArg
import Derived.Laws.IdiomCopy
import Derived.Laws.MakeOwn
import Derived.Laws.OwnMore
import Derived.Laws.Rows
import Derived.Laws.Slices
import Derived.Lib.AppendStr
import Derived.Lib.ConvBytes
import Derived.Maps.AppendAt
import Derived.OrdersHeld
import Derived.OwnWalk
import Derived.RowKit
import Derived.RowKit3
import Derived.Shelf.Abstract
import Derived.Shelf.Strconv.Itoa3
import Derived.Shelf.Strconv.Itoa4
import Derived.Shelf.Strings.OnBuilder
import Derived.Tactics
import Derived.Test.YtijmdlhcidjpmaaDoorCFnExactGateTextWApartw
import Derived.Test.YtijmdlhcidjpmaaDoorCFnExactGateTextWArrw
import Derived.Test.YtijmdlhcidjpmaaDoorCFnExactGateTextWAtw
import Derived.Test.YtijmdlhcidjpmaaDoorCFnExactGateTextWEqStructw
import Derived.Test.YtijmdlhcidjpmaaDoorCFnExactGateTextWFootNew
import Derived.Test.YtijmdlhcidjpmaaDoorCFnExactGateTextWFootw
import Derived.Test.YtijmdlhcidjpmaaDoorCFnExactGateTextWFourw
import Derived.Test.YtijmdlhcidjpmaaDoorCFnExactGateTextWGuardw
import Derived.Test.YtijmdlhcidjpmaaDoorCFnExactGateTextWInvWordsw
import Derived.Test.YtijmdlhcidjpmaaDoorCFnExactGateTextWInvw
import Derived.Test.YtijmdlhcidjpmaaDoorCFnExactGateTextWKeptw
import Derived.Test.YtijmdlhcidjpmaaDoorCFnExactGateTextWLastw
import Derived.Test.YtijmdlhcidjpmaaDoorCFnExactGateTextWMorew
import Derived.Test.YtijmdlhcidjpmaaDoorCFnExactGateTextWNEvw
import Derived.Test.YtijmdlhcidjpmaaDoorCFnExactGateTextWNw
import Derived.Test.YtijmdlhcidjpmaaDoorCFnExactGateTextWQPutw
import Derived.Test.YtijmdlhcidjpmaaDoorCFnExactGateTextWRepsOnew
import Derived.Test.YtijmdlhcidjpmaaDoorCFnExactGateTextWSharew
import Derived.Test.YtijmdlhcidjpmaaDoorCFnExactGateTextWTabw
import Derived.Test.YtijmdlhcidjpmaaDoorCFnExactGateTextWWordsw
import Derived.Test.YtijmdlhcidjpmaaDoorCFnExactGateTextWZerosw
import Derived.Test.YtijmdlhcidjpmaaDoorProg
import Derived.WalkKit
import Derived.WideLaws
namespace Go.Proofs.YtijmdlhcidjpmaaDoor.P
open Go.RowKit Go.Proofs.YtijmdlhcidjpmaaDoorW.PrintWords Go.Proofs.YtijmdlhcidjpmaaDoorW.PrintLast Go.Proofs.YtijmdlhcidjpmaaDoorW.PrintMore
attribute [local go_sem] max2_int min2_int max_two min_two max_three min_three max_four min_four
set_option linter.unusedVariables false
set_option linter.unusedSimpArgs false

def errW : Option Int → Value
  | none => .nilIface
  | some c => .iface 150 (.int .i64 c)
theorem errW_none : errW none = .nilIface := rfl
theorem errW_some (c : Int) : errW (some c) = .iface 150 (.int .i64 c) := rfl

theorem info5 : (Tryd.prog.info? 5).map (fun i => (i.zero, i.size, i.bytes)) = some (some (.int .u8 0), 1, 1) := by kernel_rfl
theorem info9 : (Tryd.prog.info? 9).map (fun i => (i.zero, i.size, i.bytes)) = some (some (.string ⟨#[]⟩), 1, 16) := by kernel_rfl
theorem info46 : (Tryd.prog.info? 46).map (fun i => (i.zero, i.size, i.bytes)) = some (some (.agg #[(.int .i64 0), (.int .i64 0), (.slice none 0 0)]), 3, 40) := by kernel_rfl
/-! #### struct type 27 -/
structure S27 where
  f0 : Int
  f1 : Int
  f2 : (List (List Int))
/-! #### struct type 24 -/
structure S24 where
  f0 : Int
  f1 : Int
  f2 : (List (List Int))
/-! #### struct type 32 -/
structure S32 where
  f0 : Int
  f1 : (List (List Int))
/-! #### struct type 41, nested in itself -/
structure S41 where
  f0 : Int
  f1 : Int
  f2 : (List S41)
def z41 : S41 := ⟨(0 : Int), (0 : Int), ([] : List S41)⟩
def F41 (d : Kd S41) : Kd S41 := Kd.iso (Kd.pair (Kd.int .i64) (Kd.pair (Kd.int .i64) (Kd.slice 41 d))) (fun x : S41 => (x.f0, x.f1, x.f2))
theorem mono41 : Kd.Mono F41 := Kd.mono_iso _ (Kd.mono_pair (Kd.mono_const _) (Kd.mono_pair (Kd.mono_const _) (Kd.mono_slice 41 Kd.mono_id)))
theorem sub41 : Kd.Sub F41 [41] := Kd.sub_iso _ (Kd.sub_pair (Kd.sub_const _ (by decide)) (Kd.sub_pair (Kd.sub_const _ (by decide)) (Kd.sub_slice 41 (by decide) Kd.sub_id)))
theorem sz41 : ∀ n, (Kd.upto F41 3 [41] n).sz = 3 := Kd.upto_sz (fun _ => rfl)
def k41 : Kd S41 := Kd.fix F41 3 [41] sz41 (Kd.upto_E sub41)
theorem k41_open {w : World} {x : S41} {cs : List Value} (h : k41.K w x cs) : ∃ A2 c2, cs = [.int .i64 x.f0, .int .i64 x.f1, .slice A2 x.f2.length c2] ∧ x.f2.length ≤ c2 ∧ k41.C w A2 x.f2.length x.f2 := by
  obtain ⟨n, h⟩ := h
  cases n with
  | zero => exact h.elim
  | succ n =>
    obtain ⟨_, _, rfl, rfl, ⟨_, _, rfl, rfl, ⟨A2, c2, rfl, l2, g2⟩⟩⟩ := h
    exact ⟨A2, c2, rfl, l2, Kd.fix_C g2⟩
theorem k41_mk (w : World) (x : S41) {A2 : Option Addr} {c2 : Nat} (l2 : x.f2.length ≤ c2) (g2 : k41.C w A2 x.f2.length x.f2) : k41.K w x [.int .i64 x.f0, .int .i64 x.f1, .slice A2 x.f2.length c2] := by
  obtain ⟨n2, q2⟩ := Kd.fix_C_back mono41 g2
  have r2 := Kd.upto_C_le mono41 sz41 (show n2 ≤ n2 by omega) q2
  exact ⟨n2 + 1, ⟨[.int .i64 x.f0], [.int .i64 x.f1, .slice A2 x.f2.length c2], rfl, rfl, ⟨[.int .i64 x.f1], [.slice A2 x.f2.length c2], rfl, rfl, ⟨A2, c2, rfl, l2, r2⟩⟩⟩⟩
def rd_T41 (xs : List S41) (i : Int) : S41 := xs.getD i.toNat z41
theorem at_T41 {w : World} {A : Option Addr} {n : Nat} {xs : List S41} (h : Kd.C k41 w A n xs) (i : Int) (h0 : 0 ≤ i) (h1 : i < n) : ∃ ad A2 c2, A = some ad ∧ w.cell? (ad.add (i.toNat * 3)) = some (.int .i64 (rd_T41 xs i).f0) ∧ w.cell? ⟨(ad.add (i.toNat * 3)).block, (ad.add (i.toNat * 3)).off + 1, none⟩ = some (.int .i64 (rd_T41 xs i).f1) ∧ w.cell? ⟨(ad.add (i.toNat * 3)).block, (ad.add (i.toNat * 3)).off + 2, none⟩ = some (.slice A2 (rd_T41 xs i).f2.length c2) ∧ (rd_T41 xs i).f2.length ≤ c2 ∧ k41.C w A2 (rd_T41 xs i).f2.length (rd_T41 xs i).f2 := by
  obtain ⟨ad, c, e, _, hK, hc0⟩ := Kd.C_get h z41 i h0 h1
  have hc : ∀ j u, c[j]? = some u → w.cell? (ad.add (i.toNat * 3 + j)) = some u := hc0
  obtain ⟨A2, c2, rfl, l2, g2⟩ := k41_open hK
  exact ⟨ad, A2, c2, e, hc 0 _ rfl, by rw [← add_field _ _ 1 (by omega)]; exact hc 1 _ rfl, by rw [← add_field _ _ 2 (by omega)]; exact hc 2 _ rfl, l2, g2⟩

/-! #### struct type 46, nested in itself -/
structure S46 where
  f0 : Int
  f1 : Int
  f2 : (List S46)
def z46 : S46 := ⟨(0 : Int), (0 : Int), ([] : List S46)⟩
def F46 (d : Kd S46) : Kd S46 := Kd.iso (Kd.pair (Kd.int .i64) (Kd.pair (Kd.int .i64) (Kd.slice 46 d))) (fun x : S46 => (x.f0, x.f1, x.f2))
theorem mono46 : Kd.Mono F46 := Kd.mono_iso _ (Kd.mono_pair (Kd.mono_const _) (Kd.mono_pair (Kd.mono_const _) (Kd.mono_slice 46 Kd.mono_id)))
theorem sub46 : Kd.Sub F46 [46] := Kd.sub_iso _ (Kd.sub_pair (Kd.sub_const _ (by decide)) (Kd.sub_pair (Kd.sub_const _ (by decide)) (Kd.sub_slice 46 (by decide) Kd.sub_id)))
theorem sz46 : ∀ n, (Kd.upto F46 3 [46] n).sz = 3 := Kd.upto_sz (fun _ => rfl)
def k46 : Kd S46 := Kd.fix F46 3 [46] sz46 (Kd.upto_E sub46)
theorem k46_open {w : World} {x : S46} {cs : List Value} (h : k46.K w x cs) : ∃ A2 c2, cs = [.int .i64 x.f0, .int .i64 x.f1, .slice A2 x.f2.length c2] ∧ x.f2.length ≤ c2 ∧ k46.C w A2 x.f2.length x.f2 := by
  obtain ⟨n, h⟩ := h
  cases n with
  | zero => exact h.elim
  | succ n =>
    obtain ⟨_, _, rfl, rfl, ⟨_, _, rfl, rfl, ⟨A2, c2, rfl, l2, g2⟩⟩⟩ := h
    exact ⟨A2, c2, rfl, l2, Kd.fix_C g2⟩
theorem k46_mk (w : World) (x : S46) {A2 : Option Addr} {c2 : Nat} (l2 : x.f2.length ≤ c2) (g2 : k46.C w A2 x.f2.length x.f2) : k46.K w x [.int .i64 x.f0, .int .i64 x.f1, .slice A2 x.f2.length c2] := by
  obtain ⟨n2, q2⟩ := Kd.fix_C_back mono46 g2
  have r2 := Kd.upto_C_le mono46 sz46 (show n2 ≤ n2 by omega) q2
  exact ⟨n2 + 1, ⟨[.int .i64 x.f0], [.int .i64 x.f1, .slice A2 x.f2.length c2], rfl, rfl, ⟨[.int .i64 x.f1], [.slice A2 x.f2.length c2], rfl, rfl, ⟨A2, c2, rfl, l2, r2⟩⟩⟩⟩
def rd_T46 (xs : List S46) (i : Int) : S46 := xs.getD i.toNat z46
theorem at_T46 {w : World} {A : Option Addr} {n : Nat} {xs : List S46} (h : Kd.C k46 w A n xs) (i : Int) (h0 : 0 ≤ i) (h1 : i < n) : ∃ ad A2 c2, A = some ad ∧ w.cell? (ad.add (i.toNat * 3)) = some (.int .i64 (rd_T46 xs i).f0) ∧ w.cell? ⟨(ad.add (i.toNat * 3)).block, (ad.add (i.toNat * 3)).off + 1, none⟩ = some (.int .i64 (rd_T46 xs i).f1) ∧ w.cell? ⟨(ad.add (i.toNat * 3)).block, (ad.add (i.toNat * 3)).off + 2, none⟩ = some (.slice A2 (rd_T46 xs i).f2.length c2) ∧ (rd_T46 xs i).f2.length ≤ c2 ∧ k46.C w A2 (rd_T46 xs i).f2.length (rd_T46 xs i).f2 := by
  obtain ⟨ad, c, e, _, hK, hc0⟩ := Kd.C_get h z46 i h0 h1
  have hc : ∀ j u, c[j]? = some u → w.cell? (ad.add (i.toNat * 3 + j)) = some u := hc0
  obtain ⟨A2, c2, rfl, l2, g2⟩ := k46_open hK
  exact ⟨ad, A2, c2, e, hc 0 _ rfl, by rw [← add_field _ _ 1 (by omega)]; exact hc 1 _ rfl, by rw [← add_field _ _ 2 (by omega)]; exact hc 2 _ rfl, l2, g2⟩

/-! #### struct type 35 -/
structure S35 where
  f0 : Int
  f1 : (List (List Int))
end Go.Proofs.YtijmdlhcidjpmaaDoor.P

namespace Go.Proofs.YtijmdlhcidjpmaaDoor.P
open Go.RowKit Go.Proofs.YtijmdlhcidjpmaaDoorW.PrintWords Go.Proofs.YtijmdlhcidjpmaaDoorW.PrintLast Go.Proofs.YtijmdlhcidjpmaaDoorW.PrintMore
attribute [local go_sem] max2_int min2_int max_two min_two max_three min_three max_four min_four
set_option linter.unusedVariables false
set_option linter.unusedSimpArgs false

/-! ### spec_l00In: function 55 -/
def spec_l00In.f (a0 : Int) (a1 : Int) (a2 : Int) : Option (Bool) := if a0 ≥ a1 then (some (decide (a0 ≤ a2))) else (some false)
set_option maxHeartbeats 8000000 in
set_option maxRecDepth 100000 in
theorem spec_l00In.calls (a0 : Int) (a1 : Int) (a2 : Int) (r : Bool) (w : World) (h : spec_l00In.f a0 a1 a2 = some r) :
    Calls Tryd.prog 55 #[.int .i64 a0, .int .i64 a1, .int .i64 a2] w fun e w' => e = .returned (.bool r) ∧ Drawn0 w w' := by
  have H : (if a0 ≥ a1 then (some (decide (a0 ≤ a2))) else (some false)) = some r := h
  clear h
  by_cases c4 : a0 ≥ a1
  · rw [if_pos c4] at H
    have c4b0 : decide (a1 ≤ a0) = true := decide_eq_true c4
    clear c4
    obtain rfl := Option.some.inj H
    go_enter Tryd.func55, Tryd.ntmps55
    go_wp2
    go_ret
    exact ⟨by first | rfl | (simp; done) | (simp [*]; done), by repeat (first | exact Drawn0.refl _ | apply Drawn0.step)⟩
  · rw [if_neg c4] at H
    have c4b0 : decide (a1 ≤ a0) = false := decide_eq_false c4
    clear c4
    obtain rfl := Option.some.inj H
    go_enter Tryd.func55, Tryd.ntmps55
    go_wp2
    go_ret
    exact ⟨by first | rfl | (simp; done) | (simp [*]; done), by repeat (first | exact Drawn0.refl _ | apply Drawn0.step)⟩

end Go.Proofs.YtijmdlhcidjpmaaDoor.P

namespace Go.Proofs.YtijmdlhcidjpmaaDoor.P
open Go.RowKit Go.Proofs.YtijmdlhcidjpmaaDoorW.PrintWords Go.Proofs.YtijmdlhcidjpmaaDoorW.PrintLast Go.Proofs.YtijmdlhcidjpmaaDoorW.PrintMore
attribute [local go_sem] max2_int min2_int max_two min_two max_three min_three max_four min_four
set_option linter.unusedVariables false
set_option linter.unusedSimpArgs false

/-- A matrix's rows, written: v the row of rows, vs its cells (each row's value); each row lies in a block of its own, all of them from lo on, below hi. -/
structure Mx (W : World) (base lo hi : Nat) (v : Value) (vs : List Value) (rows : List (List Int)) : Prop where
  own : W.ownsRow base 65 1 v rows.length vs
  row : ∀ (i : Nat) (u : Value) (r : List Int), vs[i]? = some u → rows[i]? = some r → Kd.R (Kd.int .i64) 2 W base (fun k => some k = u.ownBlock ∧ lo ≤ k ∧ k < hi) u r
  apart : ∀ (i j : Nat) (u u' : Value) (k : Nat), vs[i]? = some u → vs[j]? = some u' → u.ownBlock = some k → u'.ownBlock = some k → i = j
  outer : ∀ k, v.ownBlock = some k → lo ≤ k ∧ k < hi
namespace Mx
section
variable {W W1 : World} {base lo hi g n cap : Nat} {v u : Value} {vs : List Value} {rows : List (List Int)} {r r' : List Int}
theorem len (h : Mx W base lo hi v vs rows) : vs.length = rows.length := by have := h.own.1; omega
theorem step (h : Mx W base lo hi v vs rows) (hm : ∀ k, lo ≤ k → k < hi → k < W.heap.size → W1.heap[k]? = W.heap[k]?) : Mx W1 base lo hi v vs rows :=
  ⟨own_move h.own (fun k hk => hm k (h.outer k hk).1 (h.outer k hk).2 (own_lt h.own k hk)), fun i u r hu hr => Kd.R_step (h.row i u r hu hr) (fun k hk hlt => hm k hk.2.1 hk.2.2 hlt), h.apart, h.outer⟩
theorem below (h : Mx W base lo hi v vs rows) (hb : Below W.heap.size W W1) : Mx W1 base lo hi v vs rows := h.step (fun k _ _ hlt => hb.block k hlt)
theorem alloc (h : Mx W base lo hi v vs rows) (o : Obj) : Mx (W.alloc o) base lo hi v vs rows := h.below (below_alloc (Below.refl _ _) o)
theorem drew (h : Mx W base lo hi v vs rows) : Mx W.drew base lo hi v vs rows := h.below (below_drew (Below.refl _ _))
theorem drewN (h : Mx W base lo hi v vs rows) (m : Nat) : Mx (W.drewN m) base lo hi v vs rows := h.below (pw_below_drewN (Below.refl _ _) m)
theorem kept {S : Nat → Prop} (h : Mx W base lo hi v vs rows) (hk : Kept W W1 S) (hS : ∀ k, lo ≤ k → k < hi → ¬ S k) : Mx W1 base lo hi v vs rows := h.step (fun k h1 h2 hlt => hk.2 k hlt (hS k h1 h2))
theorem grown {b : Nat} (h : Mx W base lo hi v vs rows) (hg : W.grownBy W1 (some b)) (hp : b < lo ∨ hi ≤ b) : Mx W1 base lo hi v vs rows := h.step (fun k h1 h2 hlt => hg.block k hlt (fun e => by injection e with e; omega))
theorem grown' {w : Value} (h : Mx W base lo hi v vs rows) (hg : W.grownBy W1 w.ownBlock) (hp : ∀ b, w.ownBlock = some b → b < lo ∨ hi ≤ b) : Mx W1 base lo hi v vs rows := h.step (fun k h1 h2 hlt => hg.block k hlt (fun e => by have := hp k e.symm; omega))
theorem form (h : Mx W base lo hi v vs rows) (hp : 0 < rows.length) : ∃ g cap, v = .slice (some ⟨g, 0, none⟩) rows.length cap ∧ lo ≤ g ∧ g < hi ∧ base ≤ g ∧ g < W.heap.size := by
  obtain ⟨g, cap, he, hb, hl⟩ := h.own.form hp
  subst he
  have := h.outer g (by simp [Value.ownBlock])
  exact ⟨g, cap, rfl, this.1, this.2, hb, hl⟩
theorem slice (h : Mx W base lo hi v vs rows) : ∃ A c, v = .slice A rows.length c ∧ rows.length ≤ c := by
  rcases h.own.2 with ⟨rfl, hn⟩ | ⟨g, c, cur, rfl, _, _, hc, _⟩
  · exact ⟨none, 0, by rw [hn], by omega⟩
  · exact ⟨_, c, rfl, hc⟩
theorem count {A : Option Addr} (h : Mx W base lo hi (.slice A n cap) vs rows) : n = rows.length ∧ n ≤ cap := by
  obtain ⟨A', c, e, hc⟩ := h.slice
  injection e with _ h2 h3
  exact ⟨h2, by omega⟩
theorem cell (h : Mx W base lo hi (.slice (some ⟨g, 0, none⟩) n cap) vs rows) {i : Nat} (hu : vs[i]? = some u) : W.cell? ⟨g, i, none⟩ = some u ∧ W.frozen? ⟨g, i, none⟩ = false := by
  have hc := h.own.cells (g := g) (by simp [Value.ownBlock]) i u hu
  rw [add_plain] at hc
  refine ⟨hc, ?_⟩
  obtain ⟨cells, hb⟩ := own_typed h.own g (by simp [Value.ownBlock])
  exact blk_frozen hb i
theorem at_ (h : Mx W base lo hi v vs rows) {i : Nat} (hi' : i < rows.length) : ∃ u, vs[i]? = some u ∧ rows[i]? = some rows[i] := ⟨vs[i]'(by rw [h.len]; exact hi'), List.getElem?_eq_getElem (by rw [h.len]; exact hi'), List.getElem?_eq_getElem hi'⟩
/-- A row has been written, nothing else. -/
theorem put {P : Nat → Prop} (h : Mx W base lo hi v vs rows) {i : Nat} (hu : vs[i]? = some u) (hr : rows[i]? = some r) (hR : Kd.R (Kd.int .i64) 2 W1 base P u r') (hk : Kept W W1 (fun k => some k = u.ownBlock ∧ lo ≤ k ∧ k < hi)) : Mx W1 base lo hi v vs (rows.set i r') := by
  have hl := h.len
  have ho := h.row i u r hu hr
  refine ⟨?_, fun j u' q hu' hq => ?_, h.apart, h.outer⟩
  · rw [List.length_set]
    refine own_move h.own (fun k hk' => hk.2 k (own_lt h.own k hk') (fun h2 => ?_))
    obtain ⟨c1, e1⟩ := own_typed h.own k hk'
    obtain ⟨_, ht⟩ := Kd.R_own ho
    obtain ⟨c2, e2⟩ := own_typed ht k h2.1.symm
    rw [e1] at e2
    injection e2 with e2
    injection e2 with _ e2
    exact absurd e2 (by decide)
  · by_cases hij : j = i
    · subst hij
      rw [hu] at hu'
      obtain rfl := Option.some.inj hu'
      rw [List.getElem?_set_self (List.getElem?_eq_some_iff.1 hr).1] at hq
      obtain rfl := Option.some.inj hq
      refine Kd.R_mono (Kd.R_tight rfl hR) (fun k hk' => ⟨hk', ?_⟩)
      exact (ho.1 k hk'.symm).2
    · rw [List.getElem?_set_ne (Ne.symm hij)] at hq
      refine Kd.R_step (h.row j u' q hu' hq) (fun k hk' hlt => hk.2 k hlt (fun h2 => hij ?_))
      exact h.apart j i u' u k hu' hu hk'.1.symm h2.1.symm
theorem take {A : Option Addr} (h : Mx W base lo hi (.slice A n cap) vs rows) {m : Nat} (hm : m ≤ rows.length) : Mx W base lo hi (.slice A m cap) (vs.take m) (rows.take m) := by
  obtain rfl := h.count.1
  refine ⟨?_, fun i u r hu hr => ?_, fun i j u u' k hu hu' => ?_, fun k hk => h.outer k ?_⟩
  · have := own_take h.own hm
    rw [Nat.mul_one] at this
    rw [List.length_take, Nat.min_eq_left hm]
    exact this
  · rw [List.getElem?_take] at hu hr
    split at hu
    · rename_i hi'
      rw [if_pos hi'] at hr
      exact h.row i u r hu hr
    · cases hu
  · rw [List.getElem?_take] at hu hu'
    split at hu
    · split at hu'
      · exact h.apart i j u u' k hu hu'
      · cases hu'
    · cases hu
  · cases A with
    | none => simp [Value.ownBlock] at hk
    | some a => simpa [Value.ownBlock] using hk
end
end Mx
/-- What a walk over a matrix that the call made knows of the world: its rows in [lo, hi), other blocks as they are told, the elder world below. -/
structure Mw (w W : World) (lo hi top : Nat) (bx : List (Nat × Obj)) (v : Value) (vs : List Value) (rows : List (List Int)) : Prop where
  mx : Mx W w.heap.size lo hi v vs rows
  bx : ∀ b, b ∈ bx → W.heap[b.1]? = some b.2 ∧ (b.1 < lo ∨ hi ≤ b.1) ∧ b.1 < top
  be : Below w.heap.size w W
  l0 : w.heap.size ≤ lo
  h0 : hi ≤ top
  t0 : top ≤ W.heap.size
namespace Mw
section
variable {w W W1 : World} {lo hi top g n cap : Nat} {bx : List (Nat × Obj)} {v u : Value} {vs : List Value} {rows : List (List Int)} {r r' : List Int}
theorem below (h : Mw w W lo hi top bx v vs rows) (hb : Below W.heap.size W W1) : Mw w W1 lo hi top bx v vs rows :=
  ⟨h.mx.below hb, fun b hm => ⟨blk_below (h.bx b hm).1 hb, (h.bx b hm).2⟩, below_step h.be hb, h.l0, h.h0, Nat.le_trans h.t0 hb.size⟩
theorem drew (h : Mw w W lo hi top bx v vs rows) : Mw w W.drew lo hi top bx v vs rows := h.below (below_drew (Below.refl _ _))
theorem drewN (h : Mw w W lo hi top bx v vs rows) (m : Nat) : Mw w (W.drewN m) lo hi top bx v vs rows := h.below (pw_below_drewN (Below.refl _ _) m)
theorem alloc (h : Mw w W lo hi top bx v vs rows) (o : Obj) : Mw w (W.alloc o) lo hi top bx v vs rows := h.below (below_alloc (Below.refl _ _) o)
/-- A row has been written. -/
theorem put {P : Nat → Prop} (h : Mw w W lo hi top bx v vs rows) {i : Nat} (hu : vs[i]? = some u) (hr : rows[i]? = some r) (hR : Kd.R (Kd.int .i64) 2 W1 w.heap.size P u r') (hk : Kept W W1 (fun k => some k = u.ownBlock ∧ lo ≤ k ∧ k < hi)) (hB : Below w.heap.size w W1) : Mw w W1 lo hi top bx v vs (rows.set i r') :=
  ⟨h.mx.put hu hr hR hk, fun b hm => ⟨blk_kept (h.bx b hm).1 hk (fun hs => by have := (h.bx b hm).2.1; omega), (h.bx b hm).2⟩, hB, h.l0, h.h0, Nat.le_trans h.t0 hk.1⟩
/-- A row beyond all that is told has grown. -/
theorem grown {w1 : Value} (h : Mw w W lo hi top bx v vs rows) (hg : W.grownBy W1 w1.ownBlock) (hp : ∀ b, w1.ownBlock = some b → top ≤ b) (hB : Below w.heap.size w W1) : Mw w W1 lo hi top bx v vs rows :=
  ⟨h.mx.grown' hg (fun b hb => by have := hp b hb; have := h.h0; omega), fun b hm => ⟨blk_grown (h.bx b hm).1 hg (fun e => by have := hp b.1 e.symm; have := (h.bx b hm).2.2; omega), (h.bx b hm).2⟩, hB, h.l0, h.h0, Nat.le_trans h.t0 hg.size⟩
end
end Mw
end Go.Proofs.YtijmdlhcidjpmaaDoor.P

namespace Go.Proofs.YtijmdlhcidjpmaaDoor.P
open Go.RowKit Go.Proofs.YtijmdlhcidjpmaaDoorW.PrintWords Go.Proofs.YtijmdlhcidjpmaaDoorW.PrintLast Go.Proofs.YtijmdlhcidjpmaaDoorW.PrintMore
attribute [local go_sem] max2_int min2_int max_two min_two max_three min_three max_four min_four
set_option linter.unusedVariables false
set_option linter.unusedSimpArgs false

theorem add_zero (a : Addr) : a.add 0 = a := rfl
/-- What lies at a gate's address. -/
theorem gate_at {w : World} {a : Addr} {x : S46} (h : Kd.C k46 w (some a) 1 [x]) : ∃ A c, w.cell? a = some (.int .i64 x.f0) ∧ w.cell? ⟨a.block, a.off + 1, none⟩ = some (.int .i64 x.f1) ∧ w.cell? ⟨a.block, a.off + 2, none⟩ = some (.slice A x.f2.length c) ∧ x.f2.length ≤ c ∧ Kd.C k46 w A x.f2.length x.f2 := by
  obtain ⟨ad, A, c, e, h0, h1, h2, hl, hc⟩ := at_T46 h 0 (by omega) (by omega)
  injection e with e
  subst e
  exact ⟨A, c, h0, h1, h2, hl, hc⟩
/-- An element's address is a gate's address. -/
theorem gate_el {w : World} {ad : Addr} {n : Nat} {xs : List S46} (h : Kd.C k46 w (some ad) n xs) (i : Int) (h0 : 0 ≤ i) (h1 : i < n) : Kd.C k46 w (some (ad.add (i.toNat * 3))) 1 [rd_T46 xs i] := by
  obtain ⟨ad', c, e, hcl, hK, hc⟩ := Kd.C_get h z46 i h0 h1
  injection e with e
  subst e
  refine ⟨rfl, by omega, fun _ => ⟨_, rfl, fun j p hp => ?_⟩⟩
  rcases j with _ | j
  · obtain rfl := Option.some.inj hp
    refine ⟨c, hcl, hK, fun j u hu => ?_⟩
    have := hc j u hu
    rw [Addr.add_add]
    rwa [show (0 * k46.sz + j) = j by omega]
  · simp at hp
/-- A variable that holds a gate. -/
theorem gate_box {w : World} {g : Nat} {a b : Int} {A : Option Addr} {c : Nat} {l : List S46} (hb : w.heap[g]? = some (.cells #[.int .i64 a, .int .i64 b, .slice A l.length c] 46 (0, 0))) (hr : Kd.C k46 w A l.length l) (hc : l.length ≤ c) : Kd.C k46 w (some ⟨g, 0, none⟩) 1 [(⟨a, b, l⟩ : S46)] := by
  refine ⟨rfl, by omega, fun _ => ⟨_, rfl, fun j p hp => ?_⟩⟩
  rcases j with _ | j
  · obtain rfl := Option.some.inj hp
    refine ⟨[.int .i64 a, .int .i64 b, .slice A l.length c], rfl, k46_mk w ⟨a, b, l⟩ hc hr, fun j u hu => ?_⟩
    have := blk_cell hb j
    have e : (⟨g, 0, none⟩ : Addr).add (0 * k46.sz + j) = ⟨g, j, none⟩ := by
      rw [show (0 * k46.sz + j) = j by omega]
      unfold Addr.add
      split
      · rename_i h; rw [h]
      · simp
    rw [e, this, ← hu]
    simp
  · simp at hp

end Go.Proofs.YtijmdlhcidjpmaaDoor.P

namespace Go.Proofs.YtijmdlhcidjpmaaDoor.P
open Go.RowKit Go.Proofs.YtijmdlhcidjpmaaDoorW.PrintWords Go.Proofs.YtijmdlhcidjpmaaDoorW.PrintLast Go.Proofs.YtijmdlhcidjpmaaDoorW.PrintMore
attribute [local go_sem] max2_int min2_int max_two min_two max_three min_three max_four min_four
set_option linter.unusedVariables false
set_option linter.unusedSimpArgs false

/-! ### spec_l02Left: function 89 (by hand) -/
mutual
def spec_l02Left.l0 : Nat → S46 → Int → Int → Option Int
  | 0, _, _, _ => none
  | k + 1, x, n, i => if i < (x.f2.length : Int) then (if n ≥ 0 then (if 0 ≤ i then ((spec_l02Left.f k (rd_T46 x.f2 i) n).bind fun t => spec_l02Left.l0 k x t (wrap64 (i + 1))) else none) else some n) else some n
def spec_l02Left.f : Nat → S46 → Int → Option Int
  | 0, _, _ => none
  | k + 1, x, n => spec_l02Left.l0 k x (wrap64 (n - 1)) 0
end
set_option maxHeartbeats 8000000 in
set_option maxRecDepth 100000 in
theorem spec_l02Left.calls (k : Nat) : ∀ (ad : Addr) (x : S46) (a1 : Int) (r : Int) (w : World) (hp : Kd.C k46 w (some ad) 1 [x]) (h : spec_l02Left.f k x a1 = some r),
    Calls Tryd.prog 89 #[.pointer (some ad), .int .i64 a1] w fun e w' => e = .returned (.int .i64 r) ∧ Drawn0 w w' := by
  induction k using Nat.strongRecOn with
  | _ k ih =>
  intro ad x a1 r w hp h
  cases k with
  | zero => exact absurd h (by simp [spec_l02Left.f])
  | succ k =>
  simp only [spec_l02Left.f] at h
  obtain ⟨A, c, hx0, hx1, hx2, hl, hC⟩ := gate_at hp
  have HP := Aside0.mk hp
  have HC := Aside0.mk hC
  clear hp hC hl
  have H' := Aside0.mk h
  clear h
  go_enter Tryd.func89, Tryd.ntmps89
  go_wp2
  repeat (go_quiet (fail); try go_wp2)
  go_loopg [1, 5] k (fun kq v3 v4 w' => ∃ (n : Int) (i : Int), v3 = .int .i64 n ∧ v4 = .int .i64 i ∧ Aside0 (spec_l02Left.l0 kq x n i = some r) ∧ Aside0 (kq ≤ k) ∧ Drawn0 w w')
  case atStart => exact ⟨wrap64 (a1 - 1), 0, (by first | rfl | (simp; done)), rfl, H', ⟨Nat.le_refl _⟩, by repeat (first | exact Drawn0.refl _ | apply Drawn0.step)⟩
  case round =>
    clear H'
    obtain ⟨n, i, rfl, rfl, HA, HK, ⟨m1, rfl⟩⟩ := hrel
    cases gk with
    | zero => exact absurd HA.out (by simp [spec_l02Left.l0])
    | succ k1 =>
      have H := HA.out
      clear HA
      simp only [spec_l02Left.l0] at H
      by_cases c6 : i < (x.f2.length : Int)
      · rw [if_pos c6] at H
        have c6b0 : decide (i < (x.f2.length : Int)) = true := decide_eq_true c6
        by_cases c5 : n ≥ 0
        · rw [if_pos c5] at H
          have c5b0 : decide (n ≥ 0) = true := decide_eq_true c5
          have c5b1 : decide (0 ≤ n) = true := decide_eq_true c5
          clear c5
          by_cases c7 : 0 ≤ i
          · rw [if_pos c7] at H
            have c7b0 : decide (0 ≤ i) = true := decide_eq_true c7
            replace H := Option.bind_eq_some_iff.mp H
            obtain ⟨t, At, H⟩ := H
            have A7 := Aside0.mk At
            have H' := Aside0.mk H
            clear At H
            obtain ⟨ad2, A2, c2, e2, _⟩ := at_T46 HC.out i c7 c6
            cases e2
            have HE := Aside0.mk (gate_el HC.out i c7 c6)
            replace c7 := eq_true c7
            replace c6 := eq_true c6
            go_wp2_with (first | (go_at_call 89; (with_reducible refine (ih k1 (by have := HK.out; omega) _ (rd_T46 x.f2 i) n t _ ?side1 A7.out).mono ?_); (case side1 => repeat (first | exact HE.out | (with_reducible refine Kd.C_alloc ?_ _) | (with_reducible refine Kd.C_drewN ?_ _) | (with_reducible refine Kd.C_drew ?_))); rintro e w' ⟨rfl, ⟨nd, rfl⟩⟩; (try first | exact ⟨rfl, _, World.drewN_drewN _ _ _⟩ | exact ⟨rfl, _, Eq.trans (World.drewN_drewN _ _ _) (congrArg (World.drewN _) (Nat.add_assoc _ _ _))⟩)))
            repeat (go_quiet (first | (go_at_call 89; (with_reducible refine (ih k1 (by have := HK.out; omega) _ (rd_T46 x.f2 i) n t _ ?side1 A7.out).mono ?_); (case side1 => repeat (first | exact HE.out | (with_reducible refine Kd.C_alloc ?_ _) | (with_reducible refine Kd.C_drewN ?_ _) | (with_reducible refine Kd.C_drew ?_))); rintro e w' ⟨rfl, ⟨nd, rfl⟩⟩; (try first | exact ⟨rfl, _, World.drewN_drewN _ _ _⟩ | exact ⟨rfl, _, Eq.trans (World.drewN_drewN _ _ _) (congrArg (World.drewN _) (Nat.add_assoc _ _ _))⟩))); try go_wp2_with (first | (go_at_call 89; (with_reducible refine (ih k1 (by have := HK.out; omega) _ (rd_T46 x.f2 i) n t _ ?side1 A7.out).mono ?_); (case side1 => repeat (first | exact HE.out | (with_reducible refine Kd.C_alloc ?_ _) | (with_reducible refine Kd.C_drewN ?_ _) | (with_reducible refine Kd.C_drew ?_))); rintro e w' ⟨rfl, ⟨nd, rfl⟩⟩; (try first | exact ⟨rfl, _, World.drewN_drewN _ _ _⟩ | exact ⟨rfl, _, Eq.trans (World.drewN_drewN _ _ _) (congrArg (World.drewN _) (Nat.add_assoc _ _ _))⟩))))
            go_roundg k1
            case measure => have := HK.out; omega
            case rel => exact ⟨_, _, rfl, (by first | rfl | (simp; done)), H', ⟨by have := HK.out; omega⟩, by repeat (first | exact Drawn0.refl _ | apply Drawn0.step)⟩
          · rw [if_neg c7] at H
            exact absurd H (by simp)
        · rw [if_neg c5] at H
          have c5b0 : decide (n ≥ 0) = false := decide_eq_false c5
          have c5b1 : decide (0 ≤ n) = false := decide_eq_false c5
          clear c5
          obtain rfl := Option.some.inj H
          go_wp2
          repeat (go_quiet (fail); try go_wp2)
          go_ret
          exact ⟨rfl, by repeat (first | exact Drawn0.refl _ | apply Drawn0.step)⟩
      · rw [if_neg c6] at H
        have c6b0 : decide (i < (x.f2.length : Int)) = false := decide_eq_false c6
        clear c6
        obtain rfl := Option.some.inj H
        go_wp2
        repeat (go_quiet (fail); try go_wp2)
        go_ret
        exact ⟨rfl, by repeat (first | exact Drawn0.refl _ | apply Drawn0.step)⟩

end Go.Proofs.YtijmdlhcidjpmaaDoor.P

namespace Go.Proofs.YtijmdlhcidjpmaaDoor.P
open Go.RowKit Go.Proofs.YtijmdlhcidjpmaaDoorW.PrintWords Go.Proofs.YtijmdlhcidjpmaaDoorW.PrintLast Go.Proofs.YtijmdlhcidjpmaaDoorW.PrintMore
attribute [local go_sem] max2_int min2_int max_two min_two max_three min_three max_four min_four
set_option linter.unusedVariables false
set_option linter.unusedSimpArgs false

/-! ### spec_l00Max: function 112 -/
def spec_l00Max.f (a0 : Int) (a1 : Int) : Option (Int) := if a0 > a1 then (some a0) else (some a1)
set_option maxHeartbeats 8000000 in
set_option maxRecDepth 100000 in
theorem spec_l00Max.calls (a0 : Int) (a1 : Int) (r : Int) (w : World) (h : spec_l00Max.f a0 a1 = some r) :
    Calls Tryd.prog 112 #[.int .i64 a0, .int .i64 a1] w fun e w' => e = .returned (.int .i64 r) ∧ Drawn0 w w' := by
  have H : (if a0 > a1 then (some a0) else (some a1)) = some r := h
  clear h
  by_cases c3 : a0 > a1
  · rw [if_pos c3] at H
    have c3b0 : decide (a1 < a0) = true := decide_eq_true c3
    clear c3
    obtain rfl := Option.some.inj H
    go_enter Tryd.func112, Tryd.ntmps112
    go_wp2
    go_ret
    exact ⟨by first | rfl | (simp; done) | (simp [*]; done), by repeat (first | exact Drawn0.refl _ | apply Drawn0.step)⟩
  · rw [if_neg c3] at H
    have c3b0 : decide (a1 < a0) = false := decide_eq_false c3
    clear c3
    obtain rfl := Option.some.inj H
    go_enter Tryd.func112, Tryd.ntmps112
    go_wp2
    go_ret
    exact ⟨by first | rfl | (simp; done) | (simp [*]; done), by repeat (first | exact Drawn0.refl _ | apply Drawn0.step)⟩

end Go.Proofs.YtijmdlhcidjpmaaDoor.P

namespace Go.Proofs.YtijmdlhcidjpmaaDoor.P
open Go.RowKit Go.Proofs.YtijmdlhcidjpmaaDoorW.PrintWords Go.Proofs.YtijmdlhcidjpmaaDoorW.PrintLast Go.Proofs.YtijmdlhcidjpmaaDoorW.PrintMore
attribute [local go_sem] max2_int min2_int max_two min_two max_three min_three max_four min_four
set_option linter.unusedVariables false
set_option linter.unusedSimpArgs false

/-! ### spec_l02Depth: function 90 (by hand) -/
mutual
def spec_l02Depth.l0 : Nat → S46 → Int → Int → Option Int
  | 0, _, _, _ => none
  | k + 1, x, n, i => if i < (x.f2.length : Int) then (if 0 ≤ i then ((spec_l02Depth.f k (rd_T46 x.f2 i)).bind fun t => (spec_l00Max.f n t).bind fun u => spec_l02Depth.l0 k x u (wrap64 (i + 1))) else none) else some (wrap64 (n + 1))
def spec_l02Depth.f : Nat → S46 → Option Int
  | 0, _ => none
  | k + 1, x => spec_l02Depth.l0 k x 0 0
end
set_option maxHeartbeats 8000000 in
set_option maxRecDepth 100000 in
theorem spec_l02Depth.calls (k : Nat) : ∀ (ad : Addr) (x : S46) (r : Int) (w : World) (hp : Kd.C k46 w (some ad) 1 [x]) (h : spec_l02Depth.f k x = some r),
    Calls Tryd.prog 90 #[.pointer (some ad)] w fun e w' => e = .returned (.int .i64 r) ∧ Drawn0 w w' := by
  induction k using Nat.strongRecOn with
  | _ k ih =>
  intro ad x r w hp h
  cases k with
  | zero => exact absurd h (by simp [spec_l02Depth.f])
  | succ k =>
  simp only [spec_l02Depth.f] at h
  obtain ⟨A, c, hx0, hx1, hx2, hl, hC⟩ := gate_at hp
  have HP := Aside0.mk hp
  have HC := Aside0.mk hC
  clear hp hC hl
  have H' := Aside0.mk h
  clear h
  go_enter Tryd.func90, Tryd.ntmps90
  go_wp2
  repeat (go_quiet (fail); try go_wp2)
  go_loopg [3, 4] k (fun kq v3 v4 w' => ∃ (n : Int) (i : Int), v3 = .int .i64 n ∧ v4 = .int .i64 i ∧ Aside0 (spec_l02Depth.l0 kq x n i = some r) ∧ Aside0 (kq ≤ k) ∧ Drawn0 w w')
  case atStart => exact ⟨0, 0, rfl, rfl, H', ⟨Nat.le_refl _⟩, by repeat (first | exact Drawn0.refl _ | apply Drawn0.step)⟩
  case round =>
    clear H'
    obtain ⟨n, i, rfl, rfl, HA, HK, ⟨m1, rfl⟩⟩ := hrel
    cases gk with
    | zero => exact absurd HA.out (by simp [spec_l02Depth.l0])
    | succ k1 =>
      have H := HA.out
      clear HA
      simp only [spec_l02Depth.l0] at H
      by_cases c6 : i < (x.f2.length : Int)
      · rw [if_pos c6] at H
        have c6b0 : decide (i < (x.f2.length : Int)) = true := decide_eq_true c6
        by_cases c7 : 0 ≤ i
        · rw [if_pos c7] at H
          have c7b0 : decide (0 ≤ i) = true := decide_eq_true c7
          replace H := Option.bind_eq_some_iff.mp H
          obtain ⟨t, At, H⟩ := H
          replace H := Option.bind_eq_some_iff.mp H
          obtain ⟨u, Au, H⟩ := H
          have A7 := Aside0.mk At
          have A8 := Aside0.mk Au
          have H' := Aside0.mk H
          clear At Au H
          obtain ⟨ad2, A2, c2, e2, _⟩ := at_T46 HC.out i c7 c6
          cases e2
          have HE := Aside0.mk (gate_el HC.out i c7 c6)
          replace c7 := eq_true c7
          replace c6 := eq_true c6
          go_wp2_with (first | (go_at_call 90; (with_reducible refine (ih k1 (by have := HK.out; omega) _ (rd_T46 x.f2 i) t _ ?side1 A7.out).mono ?_); (case side1 => repeat (first | exact HE.out | (with_reducible refine Kd.C_alloc ?_ _) | (with_reducible refine Kd.C_drewN ?_ _) | (with_reducible refine Kd.C_drew ?_))); rintro e w' ⟨rfl, ⟨nd, rfl⟩⟩; (try first | exact ⟨rfl, _, World.drewN_drewN _ _ _⟩ | exact ⟨rfl, _, Eq.trans (World.drewN_drewN _ _ _) (congrArg (World.drewN _) (Nat.add_assoc _ _ _))⟩)) | (go_at_call 112; (with_reducible refine (spec_l00Max.calls n t u _ A8.out).mono ?_); rintro e w' ⟨rfl, ⟨nd, rfl⟩⟩; (try first | exact ⟨rfl, _, World.drewN_drewN _ _ _⟩ | exact ⟨rfl, _, Eq.trans (World.drewN_drewN _ _ _) (congrArg (World.drewN _) (Nat.add_assoc _ _ _))⟩)))
          repeat (go_quiet (first | (go_at_call 90; (with_reducible refine (ih k1 (by have := HK.out; omega) _ (rd_T46 x.f2 i) t _ ?side1 A7.out).mono ?_); (case side1 => repeat (first | exact HE.out | (with_reducible refine Kd.C_alloc ?_ _) | (with_reducible refine Kd.C_drewN ?_ _) | (with_reducible refine Kd.C_drew ?_))); rintro e w' ⟨rfl, ⟨nd, rfl⟩⟩; (try first | exact ⟨rfl, _, World.drewN_drewN _ _ _⟩ | exact ⟨rfl, _, Eq.trans (World.drewN_drewN _ _ _) (congrArg (World.drewN _) (Nat.add_assoc _ _ _))⟩)) | (go_at_call 112; (with_reducible refine (spec_l00Max.calls n t u _ A8.out).mono ?_); rintro e w' ⟨rfl, ⟨nd, rfl⟩⟩; (try first | exact ⟨rfl, _, World.drewN_drewN _ _ _⟩ | exact ⟨rfl, _, Eq.trans (World.drewN_drewN _ _ _) (congrArg (World.drewN _) (Nat.add_assoc _ _ _))⟩))); try go_wp2_with (first | (go_at_call 90; (with_reducible refine (ih k1 (by have := HK.out; omega) _ (rd_T46 x.f2 i) t _ ?side1 A7.out).mono ?_); (case side1 => repeat (first | exact HE.out | (with_reducible refine Kd.C_alloc ?_ _) | (with_reducible refine Kd.C_drewN ?_ _) | (with_reducible refine Kd.C_drew ?_))); rintro e w' ⟨rfl, ⟨nd, rfl⟩⟩; (try first | exact ⟨rfl, _, World.drewN_drewN _ _ _⟩ | exact ⟨rfl, _, Eq.trans (World.drewN_drewN _ _ _) (congrArg (World.drewN _) (Nat.add_assoc _ _ _))⟩)) | (go_at_call 112; (with_reducible refine (spec_l00Max.calls n t u _ A8.out).mono ?_); rintro e w' ⟨rfl, ⟨nd, rfl⟩⟩; (try first | exact ⟨rfl, _, World.drewN_drewN _ _ _⟩ | exact ⟨rfl, _, Eq.trans (World.drewN_drewN _ _ _) (congrArg (World.drewN _) (Nat.add_assoc _ _ _))⟩))))
          go_roundg k1
          case measure => have := HK.out; omega
          case rel => exact ⟨_, _, rfl, (by first | rfl | (simp; done)), H', ⟨by have := HK.out; omega⟩, by repeat (first | exact Drawn0.refl _ | apply Drawn0.step)⟩
        · rw [if_neg c7] at H
          exact absurd H (by simp)
      · rw [if_neg c6] at H
        have c6b0 : decide (i < (x.f2.length : Int)) = false := decide_eq_false c6
        clear c6
        obtain rfl := Option.some.inj H
        go_wp2
        repeat (go_quiet (fail); try go_wp2)
        go_ret
        exact ⟨(by first | rfl | (simp; done)), by repeat (first | exact Drawn0.refl _ | apply Drawn0.step)⟩

end Go.Proofs.YtijmdlhcidjpmaaDoor.P

namespace Go.Proofs.YtijmdlhcidjpmaaDoor.P
open Go.RowKit Go.Proofs.YtijmdlhcidjpmaaDoorW.PrintWords Go.Proofs.YtijmdlhcidjpmaaDoorW.PrintLast Go.Proofs.YtijmdlhcidjpmaaDoorW.PrintMore
attribute [local go_sem] max2_int min2_int max_two min_two max_three min_three max_four min_four
set_option linter.unusedVariables false
set_option linter.unusedSimpArgs false

/-! ### spec_l02Form: function 91 (by hand) -/
mutual
def spec_l02Form.l0 : Nat → Int → S46 → Int → Option Bool
  | 0, _, _, _ => none
  | k + 1, h, x, i => if i < (x.f2.length : Int) then (if 0 ≤ i then ((spec_l02Form.f k h (rd_T46 x.f2 i)).bind fun t => if t = true then spec_l02Form.l0 k h x (wrap64 (i + 1)) else some false) else none) else (if x.f0 = -1 then spec_l00In.f x.f1 1 (x.f2.length : Int) else some false)
def spec_l02Form.f : Nat → Int → S46 → Option Bool
  | 0, _, _ => none
  | k + 1, h, x => if (x.f2.length : Int) = 0 then (if x.f1 = 0 then spec_l00In.f x.f0 0 (wrap64 (h - 1)) else some false) else spec_l02Form.l0 k h x 0
end
set_option maxHeartbeats 8000000 in
set_option maxRecDepth 100000 in
theorem spec_l02Form.calls (k : Nat) : ∀ (a0 : Int) (ad : Addr) (x : S46) (r : Bool) (w : World) (hp : Kd.C k46 w (some ad) 1 [x]) (h : spec_l02Form.f k a0 x = some r),
    Calls Tryd.prog 91 #[.int .i64 a0, .pointer (some ad)] w fun e w' => e = .returned (.bool r) ∧ Drawn0 w w' := by
  induction k using Nat.strongRecOn with
  | _ k ih =>
  intro a0 ad x r w hp h
  cases k with
  | zero => exact absurd h (by simp [spec_l02Form.f])
  | succ k =>
  simp only [spec_l02Form.f] at h
  obtain ⟨A, c, hx0, hx1, hx2, hl, hC⟩ := gate_at hp
  have HP := Aside0.mk hp
  have HC := Aside0.mk hC
  clear hp hC hl
  by_cases c1 : (x.f2.length : Int) = 0
  · rw [if_pos c1] at h
    have c1b0 : (((x.f2.length : Int) : Int) == 0) = true := beq_iff_eq.mpr c1
    have c1b1 : (((x.f2.length : Int) : Int) != 0) = false := bne_eq_false_iff_eq.mpr c1
    have c1b2 : (x.f2.length == 0) = true := by first | simpa using c1 | (simp at c1 ⊢; omega)
    have c1b3 : x.f2.isEmpty = true := by first | simpa using c1 | (simp at c1 ⊢; omega)
    clear c1
    by_cases c2 : x.f1 = 0
    · rw [if_pos c2] at h
      have c2b0 : ((x.f1 : Int) == 0) = true := beq_iff_eq.mpr c2
      have c2b1 : ((x.f1 : Int) != 0) = false := bne_eq_false_iff_eq.mpr c2
      clear c2
      have A5 := Aside0.mk h
      clear h
      go_enter Tryd.func91, Tryd.ntmps91
      go_wp2_with (first | (go_at_call 55; (with_reducible refine (spec_l00In.calls x.f0 0 (wrap64 (a0 - 1)) r _ A5.out).mono ?_); rintro e w' ⟨rfl, ⟨nd, rfl⟩⟩; (try first | exact ⟨rfl, _, World.drewN_drewN _ _ _⟩ | exact ⟨rfl, _, Eq.trans (World.drewN_drewN _ _ _) (congrArg (World.drewN _) (Nat.add_assoc _ _ _))⟩)))
      repeat (go_quiet (first | (go_at_call 55; (with_reducible refine (spec_l00In.calls x.f0 0 (wrap64 (a0 - 1)) r _ A5.out).mono ?_); rintro e w' ⟨rfl, ⟨nd, rfl⟩⟩; (try first | exact ⟨rfl, _, World.drewN_drewN _ _ _⟩ | exact ⟨rfl, _, Eq.trans (World.drewN_drewN _ _ _) (congrArg (World.drewN _) (Nat.add_assoc _ _ _))⟩))); try go_wp2_with (first | (go_at_call 55; (with_reducible refine (spec_l00In.calls x.f0 0 (wrap64 (a0 - 1)) r _ A5.out).mono ?_); rintro e w' ⟨rfl, ⟨nd, rfl⟩⟩; (try first | exact ⟨rfl, _, World.drewN_drewN _ _ _⟩ | exact ⟨rfl, _, Eq.trans (World.drewN_drewN _ _ _) (congrArg (World.drewN _) (Nat.add_assoc _ _ _))⟩))))
      go_ret
      exact ⟨(by first | rfl | (simp; done) | (simp [*]; done)), by repeat (first | exact Drawn0.refl _ | apply Drawn0.step)⟩
    · rw [if_neg c2] at h
      have c2b0 : ((x.f1 : Int) == 0) = false := beq_eq_false_iff_ne.mpr c2
      have c2b1 : ((x.f1 : Int) != 0) = true := bne_iff_ne.mpr c2
      clear c2
      obtain rfl := Option.some.inj h
      clear h
      go_enter Tryd.func91, Tryd.ntmps91
      go_wp2
      repeat (go_quiet (fail); try go_wp2)
      go_ret
      exact ⟨(by first | rfl | (simp; done) | (simp [*]; done)), by repeat (first | exact Drawn0.refl _ | apply Drawn0.step)⟩
  · rw [if_neg c1] at h
    have c1b0 : (((x.f2.length : Int) : Int) == 0) = false := beq_eq_false_iff_ne.mpr c1
    have c1b1 : (((x.f2.length : Int) : Int) != 0) = true := bne_iff_ne.mpr c1
    have c1b2 : (x.f2.length == 0) = false := by first | simpa using c1 | (simp at c1 ⊢; omega)
    have c1b3 : x.f2.isEmpty = false := by first | simpa using c1 | (simp at c1 ⊢; omega)
    clear c1
    have H' := Aside0.mk h
    clear h
    go_enter Tryd.func91, Tryd.ntmps91
    go_wp2
    repeat (go_quiet (fail); try go_wp2)
    go_loopg [5] k (fun kq v4 w' => ∃ (i : Int), v4 = .int .i64 i ∧ Aside0 (spec_l02Form.l0 kq a0 x i = some r) ∧ Aside0 (kq ≤ k) ∧ Drawn0 w w')
    case atStart => exact ⟨0, rfl, H', ⟨Nat.le_refl _⟩, by repeat (first | exact Drawn0.refl _ | apply Drawn0.step)⟩
    case round =>
      clear H'
      obtain ⟨i, rfl, HA, HK, ⟨m1, rfl⟩⟩ := hrel
      cases gk with
      | zero => exact absurd HA.out (by simp [spec_l02Form.l0])
      | succ k1 =>
        have H := HA.out
        clear HA
        simp only [spec_l02Form.l0] at H
        by_cases c6 : i < (x.f2.length : Int)
        · rw [if_pos c6] at H
          have c6b0 : decide (i < (x.f2.length : Int)) = true := decide_eq_true c6
          by_cases c7 : 0 ≤ i
          · rw [if_pos c7] at H
            have c7b0 : decide (0 ≤ i) = true := decide_eq_true c7
            replace H := Option.bind_eq_some_iff.mp H
            obtain ⟨t, At, H⟩ := H
            have A7 := Aside0.mk At
            clear At
            obtain ⟨ad2, A2, c2, e2, _⟩ := at_T46 HC.out i c7 c6
            cases e2
            have HE := Aside0.mk (gate_el HC.out i c7 c6)
            replace c7 := eq_true c7
            replace c6 := eq_true c6
            cases t with
            | true =>
              rw [if_pos rfl] at H
              have H' := Aside0.mk H
              clear H
              go_wp2_with (first | (go_at_call 91; (with_reducible refine (ih k1 (by have := HK.out; omega) a0 _ (rd_T46 x.f2 i) true _ ?side1 A7.out).mono ?_); (case side1 => repeat (first | exact HE.out | (with_reducible refine Kd.C_alloc ?_ _) | (with_reducible refine Kd.C_drewN ?_ _) | (with_reducible refine Kd.C_drew ?_))); rintro e w' ⟨rfl, ⟨nd, rfl⟩⟩; (try first | exact ⟨rfl, _, World.drewN_drewN _ _ _⟩ | exact ⟨rfl, _, Eq.trans (World.drewN_drewN _ _ _) (congrArg (World.drewN _) (Nat.add_assoc _ _ _))⟩)))
              repeat (go_quiet (first | (go_at_call 91; (with_reducible refine (ih k1 (by have := HK.out; omega) a0 _ (rd_T46 x.f2 i) true _ ?side1 A7.out).mono ?_); (case side1 => repeat (first | exact HE.out | (with_reducible refine Kd.C_alloc ?_ _) | (with_reducible refine Kd.C_drewN ?_ _) | (with_reducible refine Kd.C_drew ?_))); rintro e w' ⟨rfl, ⟨nd, rfl⟩⟩; (try first | exact ⟨rfl, _, World.drewN_drewN _ _ _⟩ | exact ⟨rfl, _, Eq.trans (World.drewN_drewN _ _ _) (congrArg (World.drewN _) (Nat.add_assoc _ _ _))⟩))); try go_wp2_with (first | (go_at_call 91; (with_reducible refine (ih k1 (by have := HK.out; omega) a0 _ (rd_T46 x.f2 i) true _ ?side1 A7.out).mono ?_); (case side1 => repeat (first | exact HE.out | (with_reducible refine Kd.C_alloc ?_ _) | (with_reducible refine Kd.C_drewN ?_ _) | (with_reducible refine Kd.C_drew ?_))); rintro e w' ⟨rfl, ⟨nd, rfl⟩⟩; (try first | exact ⟨rfl, _, World.drewN_drewN _ _ _⟩ | exact ⟨rfl, _, Eq.trans (World.drewN_drewN _ _ _) (congrArg (World.drewN _) (Nat.add_assoc _ _ _))⟩))))
              go_roundg k1
              case measure => have := HK.out; omega
              case rel => exact ⟨_, (by first | rfl | (simp; done)), H', ⟨by have := HK.out; omega⟩, by repeat (first | exact Drawn0.refl _ | apply Drawn0.step)⟩
            | false =>
              rw [if_neg (by decide)] at H
              obtain rfl := Option.some.inj H
              clear H
              go_wp2_with (first | (go_at_call 91; (with_reducible refine (ih k1 (by have := HK.out; omega) a0 _ (rd_T46 x.f2 i) false _ ?side1 A7.out).mono ?_); (case side1 => repeat (first | exact HE.out | (with_reducible refine Kd.C_alloc ?_ _) | (with_reducible refine Kd.C_drewN ?_ _) | (with_reducible refine Kd.C_drew ?_))); rintro e w' ⟨rfl, ⟨nd, rfl⟩⟩; (try first | exact ⟨rfl, _, World.drewN_drewN _ _ _⟩ | exact ⟨rfl, _, Eq.trans (World.drewN_drewN _ _ _) (congrArg (World.drewN _) (Nat.add_assoc _ _ _))⟩)))
              repeat (go_quiet (first | (go_at_call 91; (with_reducible refine (ih k1 (by have := HK.out; omega) a0 _ (rd_T46 x.f2 i) false _ ?side1 A7.out).mono ?_); (case side1 => repeat (first | exact HE.out | (with_reducible refine Kd.C_alloc ?_ _) | (with_reducible refine Kd.C_drewN ?_ _) | (with_reducible refine Kd.C_drew ?_))); rintro e w' ⟨rfl, ⟨nd, rfl⟩⟩; (try first | exact ⟨rfl, _, World.drewN_drewN _ _ _⟩ | exact ⟨rfl, _, Eq.trans (World.drewN_drewN _ _ _) (congrArg (World.drewN _) (Nat.add_assoc _ _ _))⟩))); try go_wp2_with (first | (go_at_call 91; (with_reducible refine (ih k1 (by have := HK.out; omega) a0 _ (rd_T46 x.f2 i) false _ ?side1 A7.out).mono ?_); (case side1 => repeat (first | exact HE.out | (with_reducible refine Kd.C_alloc ?_ _) | (with_reducible refine Kd.C_drewN ?_ _) | (with_reducible refine Kd.C_drew ?_))); rintro e w' ⟨rfl, ⟨nd, rfl⟩⟩; (try first | exact ⟨rfl, _, World.drewN_drewN _ _ _⟩ | exact ⟨rfl, _, Eq.trans (World.drewN_drewN _ _ _) (congrArg (World.drewN _) (Nat.add_assoc _ _ _))⟩))))
              go_ret
              exact ⟨(by first | rfl | (simp; done) | (simp [*]; done)), by repeat (first | exact Drawn0.refl _ | apply Drawn0.step)⟩
          · rw [if_neg c7] at H
            exact absurd H (by simp)
        · rw [if_neg c6] at H
          have c6b0 : decide (i < (x.f2.length : Int)) = false := decide_eq_false c6
          clear c6
          by_cases c2 : x.f0 = -1
          · rw [if_pos c2] at H
            have c2b0 : ((x.f0 : Int) == -1) = true := beq_iff_eq.mpr c2
            have c2b1 : ((x.f0 : Int) != -1) = false := bne_eq_false_iff_eq.mpr c2
            clear c2
            have A5 := Aside0.mk H
            clear H
            go_wp2_with (first | (go_at_call 55; (with_reducible refine (spec_l00In.calls x.f1 1 (x.f2.length : Int) r _ A5.out).mono ?_); rintro e w' ⟨rfl, ⟨nd, rfl⟩⟩; (try first | exact ⟨rfl, _, World.drewN_drewN _ _ _⟩ | exact ⟨rfl, _, Eq.trans (World.drewN_drewN _ _ _) (congrArg (World.drewN _) (Nat.add_assoc _ _ _))⟩)))
            repeat (go_quiet (first | (go_at_call 55; (with_reducible refine (spec_l00In.calls x.f1 1 (x.f2.length : Int) r _ A5.out).mono ?_); rintro e w' ⟨rfl, ⟨nd, rfl⟩⟩; (try first | exact ⟨rfl, _, World.drewN_drewN _ _ _⟩ | exact ⟨rfl, _, Eq.trans (World.drewN_drewN _ _ _) (congrArg (World.drewN _) (Nat.add_assoc _ _ _))⟩))); try go_wp2_with (first | (go_at_call 55; (with_reducible refine (spec_l00In.calls x.f1 1 (x.f2.length : Int) r _ A5.out).mono ?_); rintro e w' ⟨rfl, ⟨nd, rfl⟩⟩; (try first | exact ⟨rfl, _, World.drewN_drewN _ _ _⟩ | exact ⟨rfl, _, Eq.trans (World.drewN_drewN _ _ _) (congrArg (World.drewN _) (Nat.add_assoc _ _ _))⟩))))
            go_ret
            exact ⟨(by first | rfl | (simp; done) | (simp [*]; done)), by repeat (first | exact Drawn0.refl _ | apply Drawn0.step)⟩
          · rw [if_neg c2] at H
            have c2b0 : ((x.f0 : Int) == -1) = false := beq_eq_false_iff_ne.mpr c2
            have c2b1 : ((x.f0 : Int) != -1) = true := bne_iff_ne.mpr c2
            clear c2
            obtain rfl := Option.some.inj H
            clear H
            go_wp2
            repeat (go_quiet (fail); try go_wp2)
            go_ret
            exact ⟨(by first | rfl | (simp; done) | (simp [*]; done)), by repeat (first | exact Drawn0.refl _ | apply Drawn0.step)⟩

end Go.Proofs.YtijmdlhcidjpmaaDoor.P

namespace Go.Proofs.YtijmdlhcidjpmaaDoor.P
open Go.RowKit Go.Proofs.YtijmdlhcidjpmaaDoorW.PrintWords Go.Proofs.YtijmdlhcidjpmaaDoorW.PrintLast Go.Proofs.YtijmdlhcidjpmaaDoorW.PrintMore
attribute [local go_sem] max2_int min2_int max_two min_two max_three min_three max_four min_four
set_option linter.unusedVariables false
set_option linter.unusedSimpArgs false

/-! ### spec_l02Ok: function 49 (by hand) -/
def spec_l02Ok.f (k : Nat) (h : Int) (x : S46) : Option Bool := (spec_l00In.f h 1 7).bind fun t => if t = true then ((spec_l02Left.f k x 60).bind fun u => if u ≥ 0 then ((spec_l02Depth.f k x).bind fun v => if v ≤ 12 then spec_l02Form.f k h x else some false) else some false) else some false
set_option maxHeartbeats 8000000 in
set_option maxRecDepth 100000 in
theorem spec_l02Ok.calls (k : Nat) (a0 : Int) (ad : Addr) (x : S46) (r : Bool) (w : World) (hp : Kd.C k46 w (some ad) 1 [x]) (h : spec_l02Ok.f k a0 x = some r) :
    Calls Tryd.prog 49 #[.int .i64 a0, .pointer (some ad)] w fun e w' => e = .returned (.bool r) ∧ Drawn0 w w' := by
  have HP := Aside0.mk hp
  clear hp
  unfold spec_l02Ok.f at h
  replace h := Option.bind_eq_some_iff.mp h
  obtain ⟨t, At, h⟩ := h
  have A1 := Aside0.mk At
  clear At
  cases t with
  | false =>
    rw [if_neg (by decide)] at h
    obtain rfl := Option.some.inj h
    clear h
    go_enter Tryd.func49, Tryd.ntmps49
    go_wp2_with (first | (go_at_call 55; (with_reducible refine (spec_l00In.calls a0 1 7 false _ A1.out).mono ?_); rintro e w' ⟨rfl, ⟨nd, rfl⟩⟩; (try first | exact ⟨rfl, _, World.drewN_drewN _ _ _⟩ | exact ⟨rfl, _, Eq.trans (World.drewN_drewN _ _ _) (congrArg (World.drewN _) (Nat.add_assoc _ _ _))⟩)))
    repeat (go_quiet (first | (go_at_call 55; (with_reducible refine (spec_l00In.calls a0 1 7 false _ A1.out).mono ?_); rintro e w' ⟨rfl, ⟨nd, rfl⟩⟩; (try first | exact ⟨rfl, _, World.drewN_drewN _ _ _⟩ | exact ⟨rfl, _, Eq.trans (World.drewN_drewN _ _ _) (congrArg (World.drewN _) (Nat.add_assoc _ _ _))⟩))); try go_wp2_with (first | (go_at_call 55; (with_reducible refine (spec_l00In.calls a0 1 7 false _ A1.out).mono ?_); rintro e w' ⟨rfl, ⟨nd, rfl⟩⟩; (try first | exact ⟨rfl, _, World.drewN_drewN _ _ _⟩ | exact ⟨rfl, _, Eq.trans (World.drewN_drewN _ _ _) (congrArg (World.drewN _) (Nat.add_assoc _ _ _))⟩))))
    go_ret
    exact ⟨(by first | rfl | (simp; done) | (simp [*]; done)), by repeat (first | exact Drawn0.refl _ | apply Drawn0.step)⟩
  | true =>
    rw [if_pos rfl] at h
    replace h := Option.bind_eq_some_iff.mp h
    obtain ⟨u, Au, h⟩ := h
    have A2 := Aside0.mk Au
    clear Au
    by_cases c1 : u ≥ 0
    · rw [if_pos c1] at h
      have c1b0 : decide (u ≥ 0) = true := decide_eq_true c1
      have c1b1 : decide (0 ≤ u) = true := decide_eq_true c1
      clear c1
      replace h := Option.bind_eq_some_iff.mp h
      obtain ⟨v, Av, h⟩ := h
      have A3 := Aside0.mk Av
      clear Av
      by_cases c2 : v ≤ 12
      · rw [if_pos c2] at h
        have c2b0 : decide (v ≤ 12) = true := decide_eq_true c2
        clear c2
        have A4 := Aside0.mk h
        clear h
        go_enter Tryd.func49, Tryd.ntmps49
        go_wp2_with (first | (go_at_call 55; (with_reducible refine (spec_l00In.calls a0 1 7 true _ A1.out).mono ?_); rintro e w' ⟨rfl, ⟨nd, rfl⟩⟩; (try first | exact ⟨rfl, _, World.drewN_drewN _ _ _⟩ | exact ⟨rfl, _, Eq.trans (World.drewN_drewN _ _ _) (congrArg (World.drewN _) (Nat.add_assoc _ _ _))⟩)) | (go_at_call 89; (with_reducible refine (spec_l02Left.calls k ad x 60 u _ ?side1 A2.out).mono ?_); (case side1 => repeat (first | exact HP.out | (with_reducible refine Kd.C_alloc ?_ _) | (with_reducible refine Kd.C_drewN ?_ _) | (with_reducible refine Kd.C_drew ?_))); rintro e w' ⟨rfl, ⟨nd, rfl⟩⟩; (try first | exact ⟨rfl, _, World.drewN_drewN _ _ _⟩ | exact ⟨rfl, _, Eq.trans (World.drewN_drewN _ _ _) (congrArg (World.drewN _) (Nat.add_assoc _ _ _))⟩)) | (go_at_call 90; (with_reducible refine (spec_l02Depth.calls k ad x v _ ?side1 A3.out).mono ?_); (case side1 => repeat (first | exact HP.out | (with_reducible refine Kd.C_alloc ?_ _) | (with_reducible refine Kd.C_drewN ?_ _) | (with_reducible refine Kd.C_drew ?_))); rintro e w' ⟨rfl, ⟨nd, rfl⟩⟩; (try first | exact ⟨rfl, _, World.drewN_drewN _ _ _⟩ | exact ⟨rfl, _, Eq.trans (World.drewN_drewN _ _ _) (congrArg (World.drewN _) (Nat.add_assoc _ _ _))⟩)) | (go_at_call 91; (with_reducible refine (spec_l02Form.calls k a0 ad x r _ ?side1 A4.out).mono ?_); (case side1 => repeat (first | exact HP.out | (with_reducible refine Kd.C_alloc ?_ _) | (with_reducible refine Kd.C_drewN ?_ _) | (with_reducible refine Kd.C_drew ?_))); rintro e w' ⟨rfl, ⟨nd, rfl⟩⟩; (try first | exact ⟨rfl, _, World.drewN_drewN _ _ _⟩ | exact ⟨rfl, _, Eq.trans (World.drewN_drewN _ _ _) (congrArg (World.drewN _) (Nat.add_assoc _ _ _))⟩)))
        repeat (go_quiet (first | (go_at_call 55; (with_reducible refine (spec_l00In.calls a0 1 7 true _ A1.out).mono ?_); rintro e w' ⟨rfl, ⟨nd, rfl⟩⟩; (try first | exact ⟨rfl, _, World.drewN_drewN _ _ _⟩ | exact ⟨rfl, _, Eq.trans (World.drewN_drewN _ _ _) (congrArg (World.drewN _) (Nat.add_assoc _ _ _))⟩)) | (go_at_call 89; (with_reducible refine (spec_l02Left.calls k ad x 60 u _ ?side1 A2.out).mono ?_); (case side1 => repeat (first | exact HP.out | (with_reducible refine Kd.C_alloc ?_ _) | (with_reducible refine Kd.C_drewN ?_ _) | (with_reducible refine Kd.C_drew ?_))); rintro e w' ⟨rfl, ⟨nd, rfl⟩⟩; (try first | exact ⟨rfl, _, World.drewN_drewN _ _ _⟩ | exact ⟨rfl, _, Eq.trans (World.drewN_drewN _ _ _) (congrArg (World.drewN _) (Nat.add_assoc _ _ _))⟩)) | (go_at_call 90; (with_reducible refine (spec_l02Depth.calls k ad x v _ ?side1 A3.out).mono ?_); (case side1 => repeat (first | exact HP.out | (with_reducible refine Kd.C_alloc ?_ _) | (with_reducible refine Kd.C_drewN ?_ _) | (with_reducible refine Kd.C_drew ?_))); rintro e w' ⟨rfl, ⟨nd, rfl⟩⟩; (try first | exact ⟨rfl, _, World.drewN_drewN _ _ _⟩ | exact ⟨rfl, _, Eq.trans (World.drewN_drewN _ _ _) (congrArg (World.drewN _) (Nat.add_assoc _ _ _))⟩)) | (go_at_call 91; (with_reducible refine (spec_l02Form.calls k a0 ad x r _ ?side1 A4.out).mono ?_); (case side1 => repeat (first | exact HP.out | (with_reducible refine Kd.C_alloc ?_ _) | (with_reducible refine Kd.C_drewN ?_ _) | (with_reducible refine Kd.C_drew ?_))); rintro e w' ⟨rfl, ⟨nd, rfl⟩⟩; (try first | exact ⟨rfl, _, World.drewN_drewN _ _ _⟩ | exact ⟨rfl, _, Eq.trans (World.drewN_drewN _ _ _) (congrArg (World.drewN _) (Nat.add_assoc _ _ _))⟩))); try go_wp2_with (first | (go_at_call 55; (with_reducible refine (spec_l00In.calls a0 1 7 true _ A1.out).mono ?_); rintro e w' ⟨rfl, ⟨nd, rfl⟩⟩; (try first | exact ⟨rfl, _, World.drewN_drewN _ _ _⟩ | exact ⟨rfl, _, Eq.trans (World.drewN_drewN _ _ _) (congrArg (World.drewN _) (Nat.add_assoc _ _ _))⟩)) | (go_at_call 89; (with_reducible refine (spec_l02Left.calls k ad x 60 u _ ?side1 A2.out).mono ?_); (case side1 => repeat (first | exact HP.out | (with_reducible refine Kd.C_alloc ?_ _) | (with_reducible refine Kd.C_drewN ?_ _) | (with_reducible refine Kd.C_drew ?_))); rintro e w' ⟨rfl, ⟨nd, rfl⟩⟩; (try first | exact ⟨rfl, _, World.drewN_drewN _ _ _⟩ | exact ⟨rfl, _, Eq.trans (World.drewN_drewN _ _ _) (congrArg (World.drewN _) (Nat.add_assoc _ _ _))⟩)) | (go_at_call 90; (with_reducible refine (spec_l02Depth.calls k ad x v _ ?side1 A3.out).mono ?_); (case side1 => repeat (first | exact HP.out | (with_reducible refine Kd.C_alloc ?_ _) | (with_reducible refine Kd.C_drewN ?_ _) | (with_reducible refine Kd.C_drew ?_))); rintro e w' ⟨rfl, ⟨nd, rfl⟩⟩; (try first | exact ⟨rfl, _, World.drewN_drewN _ _ _⟩ | exact ⟨rfl, _, Eq.trans (World.drewN_drewN _ _ _) (congrArg (World.drewN _) (Nat.add_assoc _ _ _))⟩)) | (go_at_call 91; (with_reducible refine (spec_l02Form.calls k a0 ad x r _ ?side1 A4.out).mono ?_); (case side1 => repeat (first | exact HP.out | (with_reducible refine Kd.C_alloc ?_ _) | (with_reducible refine Kd.C_drewN ?_ _) | (with_reducible refine Kd.C_drew ?_))); rintro e w' ⟨rfl, ⟨nd, rfl⟩⟩; (try first | exact ⟨rfl, _, World.drewN_drewN _ _ _⟩ | exact ⟨rfl, _, Eq.trans (World.drewN_drewN _ _ _) (congrArg (World.drewN _) (Nat.add_assoc _ _ _))⟩))))
        go_ret
        exact ⟨(by first | rfl | (simp; done) | (simp [*]; done)), by repeat (first | exact Drawn0.refl _ | apply Drawn0.step)⟩
      · rw [if_neg c2] at h
        have c2b0 : decide (v ≤ 12) = false := decide_eq_false c2
        clear c2
        obtain rfl := Option.some.inj h
        clear h
        go_enter Tryd.func49, Tryd.ntmps49
        go_wp2_with (first | (go_at_call 55; (with_reducible refine (spec_l00In.calls a0 1 7 true _ A1.out).mono ?_); rintro e w' ⟨rfl, ⟨nd, rfl⟩⟩; (try first | exact ⟨rfl, _, World.drewN_drewN _ _ _⟩ | exact ⟨rfl, _, Eq.trans (World.drewN_drewN _ _ _) (congrArg (World.drewN _) (Nat.add_assoc _ _ _))⟩)) | (go_at_call 89; (with_reducible refine (spec_l02Left.calls k ad x 60 u _ ?side1 A2.out).mono ?_); (case side1 => repeat (first | exact HP.out | (with_reducible refine Kd.C_alloc ?_ _) | (with_reducible refine Kd.C_drewN ?_ _) | (with_reducible refine Kd.C_drew ?_))); rintro e w' ⟨rfl, ⟨nd, rfl⟩⟩; (try first | exact ⟨rfl, _, World.drewN_drewN _ _ _⟩ | exact ⟨rfl, _, Eq.trans (World.drewN_drewN _ _ _) (congrArg (World.drewN _) (Nat.add_assoc _ _ _))⟩)) | (go_at_call 90; (with_reducible refine (spec_l02Depth.calls k ad x v _ ?side1 A3.out).mono ?_); (case side1 => repeat (first | exact HP.out | (with_reducible refine Kd.C_alloc ?_ _) | (with_reducible refine Kd.C_drewN ?_ _) | (with_reducible refine Kd.C_drew ?_))); rintro e w' ⟨rfl, ⟨nd, rfl⟩⟩; (try first | exact ⟨rfl, _, World.drewN_drewN _ _ _⟩ | exact ⟨rfl, _, Eq.trans (World.drewN_drewN _ _ _) (congrArg (World.drewN _) (Nat.add_assoc _ _ _))⟩)))
        repeat (go_quiet (first | (go_at_call 55; (with_reducible refine (spec_l00In.calls a0 1 7 true _ A1.out).mono ?_); rintro e w' ⟨rfl, ⟨nd, rfl⟩⟩; (try first | exact ⟨rfl, _, World.drewN_drewN _ _ _⟩ | exact ⟨rfl, _, Eq.trans (World.drewN_drewN _ _ _) (congrArg (World.drewN _) (Nat.add_assoc _ _ _))⟩)) | (go_at_call 89; (with_reducible refine (spec_l02Left.calls k ad x 60 u _ ?side1 A2.out).mono ?_); (case side1 => repeat (first | exact HP.out | (with_reducible refine Kd.C_alloc ?_ _) | (with_reducible refine Kd.C_drewN ?_ _) | (with_reducible refine Kd.C_drew ?_))); rintro e w' ⟨rfl, ⟨nd, rfl⟩⟩; (try first | exact ⟨rfl, _, World.drewN_drewN _ _ _⟩ | exact ⟨rfl, _, Eq.trans (World.drewN_drewN _ _ _) (congrArg (World.drewN _) (Nat.add_assoc _ _ _))⟩)) | (go_at_call 90; (with_reducible refine (spec_l02Depth.calls k ad x v _ ?side1 A3.out).mono ?_); (case side1 => repeat (first | exact HP.out | (with_reducible refine Kd.C_alloc ?_ _) | (with_reducible refine Kd.C_drewN ?_ _) | (with_reducible refine Kd.C_drew ?_))); rintro e w' ⟨rfl, ⟨nd, rfl⟩⟩; (try first | exact ⟨rfl, _, World.drewN_drewN _ _ _⟩ | exact ⟨rfl, _, Eq.trans (World.drewN_drewN _ _ _) (congrArg (World.drewN _) (Nat.add_assoc _ _ _))⟩))); try go_wp2_with (first | (go_at_call 55; (with_reducible refine (spec_l00In.calls a0 1 7 true _ A1.out).mono ?_); rintro e w' ⟨rfl, ⟨nd, rfl⟩⟩; (try first | exact ⟨rfl, _, World.drewN_drewN _ _ _⟩ | exact ⟨rfl, _, Eq.trans (World.drewN_drewN _ _ _) (congrArg (World.drewN _) (Nat.add_assoc _ _ _))⟩)) | (go_at_call 89; (with_reducible refine (spec_l02Left.calls k ad x 60 u _ ?side1 A2.out).mono ?_); (case side1 => repeat (first | exact HP.out | (with_reducible refine Kd.C_alloc ?_ _) | (with_reducible refine Kd.C_drewN ?_ _) | (with_reducible refine Kd.C_drew ?_))); rintro e w' ⟨rfl, ⟨nd, rfl⟩⟩; (try first | exact ⟨rfl, _, World.drewN_drewN _ _ _⟩ | exact ⟨rfl, _, Eq.trans (World.drewN_drewN _ _ _) (congrArg (World.drewN _) (Nat.add_assoc _ _ _))⟩)) | (go_at_call 90; (with_reducible refine (spec_l02Depth.calls k ad x v _ ?side1 A3.out).mono ?_); (case side1 => repeat (first | exact HP.out | (with_reducible refine Kd.C_alloc ?_ _) | (with_reducible refine Kd.C_drewN ?_ _) | (with_reducible refine Kd.C_drew ?_))); rintro e w' ⟨rfl, ⟨nd, rfl⟩⟩; (try first | exact ⟨rfl, _, World.drewN_drewN _ _ _⟩ | exact ⟨rfl, _, Eq.trans (World.drewN_drewN _ _ _) (congrArg (World.drewN _) (Nat.add_assoc _ _ _))⟩))))
        go_ret
        exact ⟨(by first | rfl | (simp; done) | (simp [*]; done)), by repeat (first | exact Drawn0.refl _ | apply Drawn0.step)⟩
    · rw [if_neg c1] at h
      have c1b0 : decide (u ≥ 0) = false := decide_eq_false c1
      have c1b1 : decide (0 ≤ u) = false := decide_eq_false c1
      clear c1
      obtain rfl := Option.some.inj h
      clear h
      go_enter Tryd.func49, Tryd.ntmps49
      go_wp2_with (first | (go_at_call 55; (with_reducible refine (spec_l00In.calls a0 1 7 true _ A1.out).mono ?_); rintro e w' ⟨rfl, ⟨nd, rfl⟩⟩; (try first | exact ⟨rfl, _, World.drewN_drewN _ _ _⟩ | exact ⟨rfl, _, Eq.trans (World.drewN_drewN _ _ _) (congrArg (World.drewN _) (Nat.add_assoc _ _ _))⟩)) | (go_at_call 89; (with_reducible refine (spec_l02Left.calls k ad x 60 u _ ?side1 A2.out).mono ?_); (case side1 => repeat (first | exact HP.out | (with_reducible refine Kd.C_alloc ?_ _) | (with_reducible refine Kd.C_drewN ?_ _) | (with_reducible refine Kd.C_drew ?_))); rintro e w' ⟨rfl, ⟨nd, rfl⟩⟩; (try first | exact ⟨rfl, _, World.drewN_drewN _ _ _⟩ | exact ⟨rfl, _, Eq.trans (World.drewN_drewN _ _ _) (congrArg (World.drewN _) (Nat.add_assoc _ _ _))⟩)))
      repeat (go_quiet (first | (go_at_call 55; (with_reducible refine (spec_l00In.calls a0 1 7 true _ A1.out).mono ?_); rintro e w' ⟨rfl, ⟨nd, rfl⟩⟩; (try first | exact ⟨rfl, _, World.drewN_drewN _ _ _⟩ | exact ⟨rfl, _, Eq.trans (World.drewN_drewN _ _ _) (congrArg (World.drewN _) (Nat.add_assoc _ _ _))⟩)) | (go_at_call 89; (with_reducible refine (spec_l02Left.calls k ad x 60 u _ ?side1 A2.out).mono ?_); (case side1 => repeat (first | exact HP.out | (with_reducible refine Kd.C_alloc ?_ _) | (with_reducible refine Kd.C_drewN ?_ _) | (with_reducible refine Kd.C_drew ?_))); rintro e w' ⟨rfl, ⟨nd, rfl⟩⟩; (try first | exact ⟨rfl, _, World.drewN_drewN _ _ _⟩ | exact ⟨rfl, _, Eq.trans (World.drewN_drewN _ _ _) (congrArg (World.drewN _) (Nat.add_assoc _ _ _))⟩))); try go_wp2_with (first | (go_at_call 55; (with_reducible refine (spec_l00In.calls a0 1 7 true _ A1.out).mono ?_); rintro e w' ⟨rfl, ⟨nd, rfl⟩⟩; (try first | exact ⟨rfl, _, World.drewN_drewN _ _ _⟩ | exact ⟨rfl, _, Eq.trans (World.drewN_drewN _ _ _) (congrArg (World.drewN _) (Nat.add_assoc _ _ _))⟩)) | (go_at_call 89; (with_reducible refine (spec_l02Left.calls k ad x 60 u _ ?side1 A2.out).mono ?_); (case side1 => repeat (first | exact HP.out | (with_reducible refine Kd.C_alloc ?_ _) | (with_reducible refine Kd.C_drewN ?_ _) | (with_reducible refine Kd.C_drew ?_))); rintro e w' ⟨rfl, ⟨nd, rfl⟩⟩; (try first | exact ⟨rfl, _, World.drewN_drewN _ _ _⟩ | exact ⟨rfl, _, Eq.trans (World.drewN_drewN _ _ _) (congrArg (World.drewN _) (Nat.add_assoc _ _ _))⟩))))
      go_ret
      exact ⟨(by first | rfl | (simp; done) | (simp [*]; done)), by repeat (first | exact Drawn0.refl _ | apply Drawn0.step)⟩

end Go.Proofs.YtijmdlhcidjpmaaDoor.P

namespace Go.Proofs.YtijmdlhcidjpmaaDoor.P
open Go.RowKit Go.Proofs.YtijmdlhcidjpmaaDoorW.PrintWords Go.Proofs.YtijmdlhcidjpmaaDoorW.PrintLast Go.Proofs.YtijmdlhcidjpmaaDoorW.PrintMore
attribute [local go_sem] max2_int min2_int max_two min_two max_three min_three max_four min_four
set_option linter.unusedVariables false
set_option linter.unusedSimpArgs false

/-! ### spec_Decimal: function 38 -/
def spec_Decimal.f : Nat → Int → Option (ByteArray)
  | 0, _ => none
  | k + 1, a0 => if a0 ≥ 10 then ((spec_Decimal.f k (wrap64 (Int.tdiv a0 10))).bind fun t113 => ((some (([(wrap64 (48 + (Int.tmod a0 10))) % 256] : List Int) : List Int)).bind fun y114 => (if t113.size + (strOfNums y114).size ≤ 9223372036854775807 then (some (t113 ++ (strOfNums y114))) else (none)))) else (some (strOfNums (([(wrap64 (48 + a0)) % 256] : List Int))))
theorem spec_Decimal.mono_l : ∀ k, (∀ y0, LeO (spec_Decimal.f k y0) (spec_Decimal.f (k + 1) y0))
  | 0 => fun _ r h => by simp [spec_Decimal.f] at h
  | k + 1 => by
    have ih0 := spec_Decimal.mono_l k
    · intro y0
      unfold spec_Decimal.f
      repeat' first
      | (with_reducible exact ih0 _)
      | (with_reducible exact LeO.refl _)
      | (with_reducible exact LeO.none _)
      | (with_reducible refine LeO.ite ?_ ?_)
      | (with_reducible refine LeO.bind ?_ (fun _ => ?_))
      | exact ih0 _
      | exact LeO.none _
      | refine LeO.ite ?_ ?_
      | refine LeO.bind ?_ (fun _ => ?_)
theorem spec_Decimal.mono : ∀ a0 k, LeO (spec_Decimal.f k a0) (spec_Decimal.f (k + 1) a0) := by
  intro a0 k
  have ih0 := spec_Decimal.mono_l k
  exact ih0 a0
def spec_Decimal.T2 : Bool × List (List Nat × List Nat) := (true, [([], []), ([0], [0]), ([1], [1]), ([], []), ([3], [3]), ([4], [4]), ([5], [5]), ([6], [6]), ([7], [7]), ([2, 8], [2, 8]), ([9, 2, 0, 1, 2, 3, 4, 5, 6, 7, 8, 9], [9])])
def spec_Decimal.B2 : List Nat := [0, 1, 3, 0, 8, 24, 56, 120, 248, 511, 1023]
theorem spec_Decimal.tab2 : rtab .any (opsOf Tryd.f38 2) = spec_Decimal.T2 := by kernel_rfl
theorem spec_Decimal.bits2 : waitsOk spec_Decimal.T2.2 spec_Decimal.B2 = true := by kernel_rfl
set_option maxHeartbeats 8000000 in
set_option maxRecDepth 100000 in
theorem spec_Decimal.calls (k : Nat) : ∀ (a0 : Int) (r : ByteArray) (w : World) (h : spec_Decimal.f k a0 = some r),
    Calls Tryd.prog 38 #[.int .i64 a0] w fun e w' => e = .returned (.string r) ∧ Below w.heap.size w w' := by
  induction k using Nat.strongRecOn with
  | _ k ih =>
  intro a0 r w h
  cases k with
  | zero => exact absurd h (by simp [spec_Decimal.f])
  | succ k =>
  simp only [spec_Decimal.f] at h
  have HB := Aside0.mk (Below.refl w.heap.size w)
  have H : (if a0 ≥ 10 then ((spec_Decimal.f k (wrap64 (Int.tdiv a0 10))).bind fun t113 => ((some (([(wrap64 (48 + (Int.tmod a0 10))) % 256] : List Int) : List Int)).bind fun y114 => (if t113.size + (strOfNums y114).size ≤ 9223372036854775807 then (some (t113 ++ (strOfNums y114))) else (none)))) else (some (strOfNums (([(wrap64 (48 + a0)) % 256] : List Int))))) = some r := h
  clear h
  by_cases c2 : a0 ≥ 10
  · rw [if_pos c2] at H
    have c2b0 : decide (10 ≤ a0) = true := decide_eq_true c2
    clear c2
    replace H := Option.bind_eq_some_iff.mp H
    obtain ⟨t113, A30, H⟩ := H
    replace H : ((some (([(wrap64 (48 + (Int.tmod a0 10))) % 256] : List Int) : List Int)).bind fun y114 => (if t113.size + (strOfNums y114).size ≤ 9223372036854775807 then (some (t113 ++ (strOfNums y114))) else (none))) = some r := H
    have A3 := Aside0.mk A30
    clear A30
    obtain ⟨y114, hy114⟩ : ∃ y_ : List Int, y_ = (([(wrap64 (48 + (Int.tmod a0 10))) % 256] : List Int)) := ⟨_, rfl⟩
    replace H : (if t113.size + (strOfNums y114).size ≤ 9223372036854775807 then (some (t113 ++ (strOfNums y114))) else (none)) = some r := by first | (rw [hy114]; with_reducible exact H) | (have H2_ := (Option.bind_some _ _).symm.trans H; rw [hy114]; with_reducible exact H2_) | (have H2_ := (Option.bind_some _ _).symm.trans H; with_reducible exact H2_) | with_reducible exact H | (rw [hy114]; exact H) | exact H
    have Ny114 := Aside0.mk hy114
    clear hy114
    by_cases c4 : t113.size + (strOfNums y114).size ≤ 9223372036854775807
    · rw [if_pos c4] at H
      have c4b0 := eq_true c4
      have c4b1 : decide (t113.size + (strOfNums y114).size ≤ 9223372036854775807) = true := decide_eq_true c4
      try have c4b2 : (9223372036854775807 < t113.size + (strOfNums y114).size) = False := eq_false (Nat.not_lt.2 c4)
      obtain rfl := Option.some.inj H
      go_enter Tryd.func38, Tryd.ntmps38
      try go_wp2
      have n0_ := Aside0.mk (below_drew1 HB.out)
      clear HB
      have HB := n0_
      clear n0_
      refine start_ (n := 11) (S := fun w' => True) (ds := []) #[false, false, false, false, false, false, false, false, false, false, false] (by kernel_rfl) rfl rfl trivial (fun hHeld => ?_); refine with_tabW spec_Decimal.tab2 spec_Decimal.bits2 (fun HT_ HW_ => ?_)
      generalize w.drew = w5 at HB hHeld ⊢
      refine pure_ (i := 0) (N := some 5) (v := ?_) (a' := ?_) #[true, false, false, false, false, false, false, false, false, false, false] rfl rfl (any_of HT_.out (by kernel_rfl)) (fun _ _ _ h => h) (Or.inl ⟨by rfl, ?_⟩) ?_ ?_
      rotate_left
      · intro w'
        first | (go_simp; with_reducible rfl) | (simp [go_sem, Instr.field, asAgg] <;> with_reducible rfl)
      rotate_left
      · simp only [Act.put, List.setIfInBounds_toArray, List.set_cons_zero, List.set_cons_succ, i64_w, i32_w]
        rfl
      refine pure_ (i := 1) (N := some 6) (v := ?_) (a' := ?_) #[true, true, false, false, false, false, false, false, false, false, false] rfl rfl (any_of HT_.out (by kernel_rfl)) (fun _ _ _ h => h) (Or.inl ⟨by rfl, ?_⟩) ?_ ?_
      rotate_left
      · intro w'
        first | (go_simp; with_reducible rfl) | (simp [go_sem, Instr.field, asAgg] <;> with_reducible rfl)
      rotate_left
      · simp only [Act.put, List.setIfInBounds_toArray, List.set_cons_zero, List.set_cons_succ, i64_w, i32_w]
        rfl
      refine pure_ (i := 3) (N := some 8) (v := ?_) (a' := ?_) #[true, true, false, true, false, false, false, false, false, false, false] rfl rfl (any_of HT_.out (by kernel_rfl)) (fun _ _ _ h => h) (Or.inl ⟨by rfl, ?_⟩) ?_ ?_
      rotate_left
      · intro w'
        first | (go_simp; with_reducible rfl) | (simp [go_sem, Instr.field, asAgg] <;> with_reducible rfl)
      rotate_left
      · simp only [Act.put, List.setIfInBounds_toArray, List.set_cons_zero, List.set_cons_succ, i64_w, i32_w]
        rfl
      refine pure_ (i := 4) (N := some 9) (v := ?_) (a' := ?_) #[true, true, false, true, true, false, false, false, false, false, false] rfl rfl (any_of HT_.out (by kernel_rfl)) (fun _ _ _ h => h) (Or.inl ⟨by rfl, ?_⟩) ?_ ?_
      rotate_left
      · intro w'
        first | (go_simp; with_reducible rfl) | (simp [go_sem, Instr.field, asAgg] <;> with_reducible rfl)
      rotate_left
      · simp only [Act.put, List.setIfInBounds_toArray, List.set_cons_zero, List.set_cons_succ, i64_w, i32_w]
        rfl
      refine pure_ (i := 5) (N := some 10) (v := ?_) (a' := ?_) #[true, true, false, true, true, true, false, false, false, false, false] rfl rfl (any_of HT_.out (by kernel_rfl)) (fun _ _ _ h => h) (Or.inl ⟨by rfl, ?_⟩) ?_ ?_
      rotate_left
      · intro w'
        first | (go_simp; with_reducible rfl) | (simp [go_sem, Instr.field, asAgg] <;> with_reducible rfl)
      rotate_left
      · simp only [Act.put, List.setIfInBounds_toArray, List.set_cons_zero, List.set_cons_succ, i64_w, i32_w]
        rfl
      refine pure_ (i := 6) (N := some 11) (v := ?_) (a' := ?_) #[true, true, false, true, true, true, true, false, false, false, false] rfl rfl (any_of HT_.out (by kernel_rfl)) (fun _ _ _ h => h) (Or.inl ⟨by rfl, ?_⟩) ?_ ?_
      rotate_left
      · intro w'
        first | (go_simp; with_reducible rfl) | (simp [go_sem, Instr.field, asAgg] <;> with_reducible rfl)
      rotate_left
      · simp only [Act.put, List.setIfInBounds_toArray, List.set_cons_zero, List.set_cons_succ, i64_w, i32_w]
        rfl
      refine join_ (σ := Value) 2 #[true, true, true, true, true, true, true, true, true, false, false] (fun s_ => [(7, .string t113), (12, s_), (13, .string (strOfNums y114))]) (fun s_ w' => (Kd.R (Kd.int .u8) 5 w' w.heap.size (fun _ => True) s_ y114) ∧ (Below w.heap.size w w')) ?_ ?_
      rotate_left
      · intro hCont
        refine two_ (i := 2) (j := 7) (Ni := some 7) (Nj := some 12) #[true, true, true, true, true, true, true, false, false, false, false] #[true, true, false, true, true, true, true, true, false, false, false] rfl rfl rfl rfl (two_of HT_.out (by kernel_rfl)) (by decide) (by decide) (fun K hK => ?_) (fun K hK => ?_)
        · skip
          refine goes_ Tryd.func38 (by kernel_rfl) rfl #[.int .i64 (wrap64 (Int.tdiv a0 10))] (by rfl) rfl rfl (by (try simp only [List.map_toArray, List.map_cons, List.map_nil]); first | done | rfl | (simp only [List.length_drop, List.length_take]; rfl)) ?_
          with_reducible refine (ih k (by omega) (wrap64 (Int.tdiv a0 10)) t113 _ A3.out).mono ?_
          rintro e w6 ⟨rfl, hb⟩
          refine ⟨_, rfl, ?_⟩
          have n0_ := Aside0.mk (below_step (by repeat (first | (with_reducible first | exact HB.out | apply below_alloc | apply pw_below_drewN | apply below_drew1) | exact HB.out)) hb)
          clear HB
          have HB := n0_
          clear n0_
          (try clear hb)
          (try clear hb2)
          (try clear hk)
          (try clear hi)
          refine hK.out _ _ trivial (fun hHeld => ?_)
          clear hK K
          refine norm_ (a' := ?_) ?_ ?_
          rotate_left
          · show Act.put _ (some 7) _ = _
            simp only [Act.put, List.setIfInBounds_toArray, List.set_cons_zero, List.set_cons_succ, i64_w, i32_w]
            rfl
          refine one_ (i := 7) (N := some 12) #[true, true, true, true, true, true, true, true, false, false, false] rfl rfl (one_of HT_.out (by kernel_rfl)) (by decide) (fun K hK => ?_)
          refine Kd.R_lit_step (Kd.int .u8) _ 5 ?hg (N := 12) ?hd (xs := ([(wrap64 (48 + (Int.tmod a0 10))) % 256] : List Int)) (inner := [.int .u8 ((wrap64 (48 + (Int.tmod a0 10))) % 256)]) (ok := fun _ => True) (okp := fun _ => True) ?hr ?hp (fun _ hk => hk) trivial (Below.refl _ _) (Nat.le_refl _) (by simp) ?_; (case hd => rfl); (case hg => rfl); (case hr => first | (go_simp; done) | (go_simp; rfl)); (case hp => exact (Reps.one (show Kd.M (Kd.int .u8) _ _ _ ((wrap64 (48 + (Int.tmod a0 10))) % 256) [.int .u8 ((wrap64 (48 + (Int.tmod a0 10))) % 256)] from rfl) (Reps.none _ _)))
          intro v115 w7 ho8 hb hg_ hnew_
          clear hg_ hnew_
          (first | rw [← Ny114.out] at ho8 | (simp only [Int.reduceToNat] at ho8; rw [← Ny114.out] at ho8))
          have n0_ := Aside0.mk (Kd.R_lower ho8 (below_size (by repeat (first | (with_reducible first | exact HB.out | apply below_alloc | apply pw_below_drewN | apply below_drew1) | exact HB.out))))
          have n1_ := Aside0.mk (below_step (by repeat (first | (with_reducible first | exact HB.out | apply below_alloc | apply pw_below_drewN | apply below_drew1) | exact HB.out)) hb)
          clear HB
          have HO116 := n0_
          have HB := n1_
          clear n0_ n1_
          clear hb ho8
          refine hK.out _ _ trivial (fun hHeld => ?_)
          clear hK K
          refine norm_ (a' := ?_) ?_ ?_
          rotate_left
          · show Act.put _ (some 12) _ = _
            simp only [Act.put, List.setIfInBounds_toArray, List.set_cons_zero, List.set_cons_succ, i64_w, i32_w]
            rfl
          refine one_ (i := 8) (N := some 13) #[true, true, true, true, true, true, true, true, true, false, false] rfl rfl (one_of HT_.out (by kernel_rfl)) (by decide) (fun K hK => ?_)
          have hcv9 := own_string (P := Tryd.prog) Tryd.underlying108 Tryd.underlying5 Tryd.underlying9 (Kd.own_of_R HO116.out)
          refine value_ (w1 := ?_) (v := ?_) (by rfl) rfl ?_ ?_
          rotate_left 2
          · go_simp
            constructor
            · rfl
            · rfl
          clear hcv9
          refine hK.out _ _ trivial (fun hHeld => ?_)
          clear hK K
          refine norm_ (a' := ?_) ?_ ?_
          rotate_left
          · show Act.put _ (some 13) _ = _
            simp only [Act.put, List.setIfInBounds_toArray, List.set_cons_zero, List.set_cons_succ, i64_w, i32_w]
            rfl
          exact norm_ (by simp only [putAll, Act.put, List.setIfInBounds_toArray, List.set_cons_zero, List.set_cons_succ]) (hCont (v115) _ ⟨(by (with_reducible repeat (first | apply Kd.R_alloc | apply Kd.R_drewN | apply Kd.R_drew)); exact HO116.out), (by repeat (first | (with_reducible first | exact HB.out | apply below_alloc | apply pw_below_drewN | apply below_drew1) | exact HB.out))⟩)
        · skip
          refine Kd.R_lit_step (Kd.int .u8) _ 5 ?hg (N := 12) ?hd (xs := ([(wrap64 (48 + (Int.tmod a0 10))) % 256] : List Int)) (inner := [.int .u8 ((wrap64 (48 + (Int.tmod a0 10))) % 256)]) (ok := fun _ => True) (okp := fun _ => True) ?hr ?hp (fun _ hk => hk) trivial (Below.refl _ _) (Nat.le_refl _) (by simp) ?_; (case hd => rfl); (case hg => rfl); (case hr => first | (go_simp; done) | (go_simp; rfl)); (case hp => exact (Reps.one (show Kd.M (Kd.int .u8) _ _ _ ((wrap64 (48 + (Int.tmod a0 10))) % 256) [.int .u8 ((wrap64 (48 + (Int.tmod a0 10))) % 256)] from rfl) (Reps.none _ _)))
          intro v115 w6 ho7 hb hg_ hnew_
          clear hg_ hnew_
          (first | rw [← Ny114.out] at ho7 | (simp only [Int.reduceToNat] at ho7; rw [← Ny114.out] at ho7))
          have n0_ := Aside0.mk (Kd.R_lower ho7 (below_size (by repeat (first | (with_reducible first | exact HB.out | apply below_alloc | apply pw_below_drewN | apply below_drew1) | exact HB.out))))
          have n1_ := Aside0.mk (below_step (by repeat (first | (with_reducible first | exact HB.out | apply below_alloc | apply pw_below_drewN | apply below_drew1) | exact HB.out)) hb)
          clear HB
          have HO116 := n0_
          have HB := n1_
          clear n0_ n1_
          clear hb ho7
          refine hK.out _ _ trivial (fun hHeld => ?_)
          clear hK K
          refine norm_ (a' := ?_) ?_ ?_
          rotate_left
          · show Act.put _ (some 12) _ = _
            simp only [Act.put, List.setIfInBounds_toArray, List.set_cons_zero, List.set_cons_succ, i64_w, i32_w]
            rfl
          refine two_ (i := 2) (j := 8) (Ni := some 7) (Nj := some 13) #[true, true, true, true, true, true, true, true, false, false, false] #[true, true, false, true, true, true, true, true, true, false, false] rfl rfl rfl rfl (two_of HT_.out (by kernel_rfl)) (by decide) (by decide) (fun K hK => ?_) (fun K hK => ?_)
          · skip
            refine goes_ Tryd.func38 (by kernel_rfl) rfl #[.int .i64 (wrap64 (Int.tdiv a0 10))] (by rfl) rfl rfl (by (try simp only [List.map_toArray, List.map_cons, List.map_nil]); first | done | rfl | (simp only [List.length_drop, List.length_take]; rfl)) ?_
            with_reducible refine (ih k (by omega) (wrap64 (Int.tdiv a0 10)) t113 _ A3.out).mono ?_
            rintro e w8 ⟨rfl, hb⟩
            refine ⟨_, rfl, ?_⟩
            have n0_ := Aside0.mk (Kd.R_below (by (with_reducible repeat (first | apply Kd.R_alloc | apply Kd.R_drewN | apply Kd.R_drew)); exact HO116.out) hb)
            have n1_ := Aside0.mk (below_step (by repeat (first | (with_reducible first | exact HB.out | apply below_alloc | apply pw_below_drewN | apply below_drew1) | exact HB.out)) hb)
            clear HO116
            clear HB
            have HO116 := n0_
            have HB := n1_
            clear n0_ n1_
            (try clear hb)
            (try clear hb2)
            (try clear hk)
            (try clear hi)
            refine hK.out _ _ trivial (fun hHeld => ?_)
            clear hK K
            refine norm_ (a' := ?_) ?_ ?_
            rotate_left
            · show Act.put _ (some 7) _ = _
              simp only [Act.put, List.setIfInBounds_toArray, List.set_cons_zero, List.set_cons_succ, i64_w, i32_w]
              rfl
            refine one_ (i := 8) (N := some 13) #[true, true, true, true, true, true, true, true, true, false, false] rfl rfl (one_of HT_.out (by kernel_rfl)) (by decide) (fun K hK => ?_)
            have hcv9 := own_string (P := Tryd.prog) Tryd.underlying108 Tryd.underlying5 Tryd.underlying9 (Kd.own_of_R HO116.out)
            refine value_ (w1 := ?_) (v := ?_) (by rfl) rfl ?_ ?_
            rotate_left 2
            · go_simp
              constructor
              · rfl
              · rfl
            clear hcv9
            refine hK.out _ _ trivial (fun hHeld => ?_)
            clear hK K
            refine norm_ (a' := ?_) ?_ ?_
            rotate_left
            · show Act.put _ (some 13) _ = _
              simp only [Act.put, List.setIfInBounds_toArray, List.set_cons_zero, List.set_cons_succ, i64_w, i32_w]
              rfl
            exact norm_ (by simp only [putAll, Act.put, List.setIfInBounds_toArray, List.set_cons_zero, List.set_cons_succ]) (hCont (v115) _ ⟨(by (with_reducible repeat (first | apply Kd.R_alloc | apply Kd.R_drewN | apply Kd.R_drew)); exact HO116.out), (by repeat (first | (with_reducible first | exact HB.out | apply below_alloc | apply pw_below_drewN | apply below_drew1) | exact HB.out))⟩)
          · skip
            have hcv8 := own_string (P := Tryd.prog) Tryd.underlying108 Tryd.underlying5 Tryd.underlying9 (Kd.own_of_R HO116.out)
            refine value_ (w1 := ?_) (v := ?_) (by rfl) rfl ?_ ?_
            rotate_left 2
            · go_simp
              constructor
              · rfl
              · rfl
            clear hcv8
            refine hK.out _ _ trivial (fun hHeld => ?_)
            clear hK K
            refine norm_ (a' := ?_) ?_ ?_
            rotate_left
            · show Act.put _ (some 13) _ = _
              simp only [Act.put, List.setIfInBounds_toArray, List.set_cons_zero, List.set_cons_succ, i64_w, i32_w]
              rfl
            refine one_ (i := 2) (N := some 7) #[true, true, true, true, true, true, true, true, true, false, false] rfl rfl (one_of HT_.out (by kernel_rfl)) (by decide) (fun K hK => ?_)
            refine goes_ Tryd.func38 (by kernel_rfl) rfl #[.int .i64 (wrap64 (Int.tdiv a0 10))] (by rfl) rfl rfl (by (try simp only [List.map_toArray, List.map_cons, List.map_nil]); first | done | rfl | (simp only [List.length_drop, List.length_take]; rfl)) ?_
            with_reducible refine (ih k (by omega) (wrap64 (Int.tdiv a0 10)) t113 _ A3.out).mono ?_
            rintro e w9 ⟨rfl, hb⟩
            refine ⟨_, rfl, ?_⟩
            have n0_ := Aside0.mk (Kd.R_below (by (with_reducible repeat (first | apply Kd.R_alloc | apply Kd.R_drewN | apply Kd.R_drew)); exact HO116.out) hb)
            have n1_ := Aside0.mk (below_step (by repeat (first | (with_reducible first | exact HB.out | apply below_alloc | apply pw_below_drewN | apply below_drew1) | exact HB.out)) hb)
            clear HO116
            clear HB
            have HO116 := n0_
            have HB := n1_
            clear n0_ n1_
            (try clear hb)
            (try clear hb2)
            (try clear hk)
            (try clear hi)
            refine hK.out _ _ trivial (fun hHeld => ?_)
            clear hK K
            refine norm_ (a' := ?_) ?_ ?_
            rotate_left
            · show Act.put _ (some 7) _ = _
              simp only [Act.put, List.setIfInBounds_toArray, List.set_cons_zero, List.set_cons_succ, i64_w, i32_w]
              rfl
            exact norm_ (by simp only [putAll, Act.put, List.setIfInBounds_toArray, List.set_cons_zero, List.set_cons_succ]) (hCont (v115) _ ⟨(by (with_reducible repeat (first | apply Kd.R_alloc | apply Kd.R_drewN | apply Kd.R_drew)); exact HO116.out), (by repeat (first | (with_reducible first | exact HB.out | apply below_alloc | apply pw_below_drewN | apply below_drew1) | exact HB.out))⟩)
      rintro v115 w10 ⟨h0_, h1_⟩
      have n0_ : Aside0 (Kd.R (Kd.int .u8) 5 w10 w.heap.size (fun _ => True) v115 y114) := ⟨h0_⟩
      have n1_ : Aside0 (Below w.heap.size w w10) := ⟨h1_⟩
      clear HB
      clear h0_ h1_
      have HO116 := n0_
      have HB := n1_
      clear n0_ n1_
      have hHeld := trivial
      refine norm_ (a' := ?_) ?_ ?_
      rotate_left
      · simp only [putAll, Act.put, List.setIfInBounds_toArray, List.set_cons_zero, List.set_cons_succ]
        rfl
      refine pure_ (i := 9) (N := some 14) (v := ?_) (a' := ?_) #[true, true, true, true, true, true, true, true, true, true, false] rfl rfl (any_of HT_.out (by kernel_rfl)) (fun _ _ _ h => h) (Or.inl ⟨by rfl, ?_⟩) ?_ ?_
      rotate_left
      · intro w'
        first | (go_simp; with_reducible rfl) | (simp [go_sem, Instr.field, asAgg] <;> with_reducible rfl)
      rotate_left
      · simp only [Act.put, List.setIfInBounds_toArray, List.set_cons_zero, List.set_cons_succ, i64_w, i32_w]
        rfl
      refine pure_ (i := 10) (N := some 2) (v := ?_) (a' := ?_) #[true, true, true, true, true, true, true, true, true, true, true] rfl rfl (any_of HT_.out (by kernel_rfl)) (fun _ _ _ h => h) (Or.inl ⟨by rfl, ?_⟩) ?_ ?_
      rotate_left
      · intro w'
        first | (go_simp; with_reducible rfl) | (simp [go_sem, Instr.field, asAgg] <;> with_reducible rfl)
      rotate_left
      · simp only [Act.put, List.setIfInBounds_toArray, List.set_cons_zero, List.set_cons_succ, i64_w, i32_w]
        rfl
      refine done_ (done_of HT_.out (by kernel_rfl)) ?_
      try go_wp2
      go_ret
      exact ⟨by first | rfl | (simp [errW_none, errW_some] <;> rfl) | (simp [*, errW_none, errW_some] <;> rfl), by repeat (first | (with_reducible first | exact HB.out | apply below_alloc | apply pw_below_drewN | apply below_drew1) | exact HB.out)⟩
    · rw [if_neg c4] at H
      exact absurd H (by simp)
  · rw [if_neg c2] at H
    have c2b0 : decide (10 ≤ a0) = false := decide_eq_false c2
    clear c2
    obtain ⟨y117, hy117⟩ : ∃ y_ : List Int, y_ = (([(wrap64 (48 + a0)) % 256] : List Int)) := ⟨_, rfl⟩
    replace H : (some (strOfNums y117)) = some r := by first | (rw [hy117]; with_reducible exact H) | (have H2_ := (Option.bind_some _ _).symm.trans H; rw [hy117]; with_reducible exact H2_) | (have H2_ := (Option.bind_some _ _).symm.trans H; with_reducible exact H2_) | with_reducible exact H | (rw [hy117]; exact H) | exact H
    have Ny117 := Aside0.mk hy117
    clear hy117
    obtain rfl := Option.some.inj H
    go_enter Tryd.func38, Tryd.ntmps38
    go_wp2_with (first | ((with_reducible refine gate_dst (N := 18) rfl ?_); refine Kd.R_lit (Kd.int .u8) _ 5 ?hg (N := 18) ?hd (xs := ([(wrap64 (48 + a0)) % 256] : List Int)) (inner := [.int .u8 ((wrap64 (48 + a0)) % 256)]) (ok := fun _ => True) (okp := fun _ => True) ?hr ?hp (fun _ hk => hk) trivial (Below.refl _ _) (Nat.le_refl _) (by simp) ?_; (case hd => rfl); (case hg => rfl); (case hr => first | (go_simp; done) | (go_simp; rfl)); (case hp => exact (Reps.one (show Kd.M (Kd.int .u8) _ _ _ ((wrap64 (48 + a0)) % 256) [.int .u8 ((wrap64 (48 + a0)) % 256)] from rfl) (Reps.none _ _))); intro v118 w11 ho12 hb hg_ hnew_; clear hg_ hnew_; (first | rw [← Ny117.out] at ho12 | (simp only [Int.reduceToNat] at ho12; rw [← Ny117.out] at ho12)); have n0_ := Aside0.mk (Kd.R_lower ho12 (below_size (by repeat (first | (with_reducible first | exact HB.out | apply below_alloc | apply pw_below_drewN | apply below_drew1) | exact HB.out)))); have n1_ := Aside0.mk (below_step (by repeat (first | (with_reducible first | exact HB.out | apply below_alloc | apply pw_below_drewN | apply below_drew1) | exact HB.out)) hb); clear HB; have HO119 := n0_; have HB := n1_; clear n0_ n1_; clear hb ho12; have hcv13 := own_string (P := Tryd.prog) Tryd.underlying108 Tryd.underlying5 Tryd.underlying9 (Kd.own_of_R HO119.out)))
    go_ret
    exact ⟨by first | rfl | (simp [errW_none, errW_some] <;> rfl) | (simp [*, errW_none, errW_some] <;> rfl), by repeat (first | (with_reducible first | exact HB.out | apply below_alloc | apply pw_below_drewN | apply below_drew1) | exact HB.out)⟩

end Go.Proofs.YtijmdlhcidjpmaaDoor.P

namespace Go.Proofs.YtijmdlhcidjpmaaDoor.P
open Go.RowKit Go.Proofs.YtijmdlhcidjpmaaDoorW.PrintWords Go.Proofs.YtijmdlhcidjpmaaDoorW.PrintLast Go.Proofs.YtijmdlhcidjpmaaDoorW.PrintMore
attribute [local go_sem] max2_int min2_int max_two min_two max_three min_three max_four min_four
set_option linter.unusedVariables false
set_option linter.unusedSimpArgs false

/-! ### slices_IndexFunc_int64_int64_128: function 128 (by hand) -/
end Go.Proofs.YtijmdlhcidjpmaaDoor.P

namespace Go.Proofs.YtijmdlhcidjpmaaDoor.P
open Go.RowKit Go.Proofs.YtijmdlhcidjpmaaDoorW.PrintWords Go.Proofs.YtijmdlhcidjpmaaDoorW.PrintLast Go.Proofs.YtijmdlhcidjpmaaDoorW.PrintMore
attribute [local go_sem] max2_int min2_int max_two min_two max_three min_three max_four min_four
set_option linter.unusedVariables false
set_option linter.unusedSimpArgs false

/-! ### slices_ContainsFunc_int64_int64_106: function 106 (by hand) -/
end Go.Proofs.YtijmdlhcidjpmaaDoor.P

namespace Go.Proofs.YtijmdlhcidjpmaaDoor.P
open Go.RowKit Go.Proofs.YtijmdlhcidjpmaaDoorW.PrintWords Go.Proofs.YtijmdlhcidjpmaaDoorW.PrintLast Go.Proofs.YtijmdlhcidjpmaaDoorW.PrintMore
attribute [local go_sem] max2_int min2_int max_two min_two max_three min_three max_four min_four
set_option linter.unusedVariables false
set_option linter.unusedSimpArgs false

/-! ### impl_within: function 57 -/
def impl_within.f (a0 : Int) (a1 : Int) (a2 : Int) : Option (Bool) := if a0 ≥ a1 then (some (decide (a0 ≤ a2))) else (some false)
set_option maxHeartbeats 8000000 in
set_option maxRecDepth 100000 in
theorem impl_within.calls (a0 : Int) (a1 : Int) (a2 : Int) (r : Bool) (w : World) (h : impl_within.f a0 a1 a2 = some r) :
    Calls Tryd.prog 57 #[.int .i64 a0, .int .i64 a1, .int .i64 a2] w fun e w' => e = .returned (.bool r) ∧ Drawn0 w w' := by
  have H : (if a0 ≥ a1 then (some (decide (a0 ≤ a2))) else (some false)) = some r := h
  clear h
  by_cases c4 : a0 ≥ a1
  · rw [if_pos c4] at H
    have c4b0 : decide (a1 ≤ a0) = true := decide_eq_true c4
    clear c4
    obtain rfl := Option.some.inj H
    go_enter Tryd.func57, Tryd.ntmps57
    go_wp2
    go_ret
    exact ⟨by first | rfl | (simp; done) | (simp [*]; done), by repeat (first | exact Drawn0.refl _ | apply Drawn0.step)⟩
  · rw [if_neg c4] at H
    have c4b0 : decide (a1 ≤ a0) = false := decide_eq_false c4
    clear c4
    obtain rfl := Option.some.inj H
    go_enter Tryd.func57, Tryd.ntmps57
    go_wp2
    go_ret
    exact ⟨by first | rfl | (simp; done) | (simp [*]; done), by repeat (first | exact Drawn0.refl _ | apply Drawn0.step)⟩

end Go.Proofs.YtijmdlhcidjpmaaDoor.P

namespace Go.Proofs.YtijmdlhcidjpmaaDoor.P
open Go.RowKit Go.Proofs.YtijmdlhcidjpmaaDoorW.PrintWords Go.Proofs.YtijmdlhcidjpmaaDoorW.PrintLast Go.Proofs.YtijmdlhcidjpmaaDoorW.PrintMore
attribute [local go_sem] max2_int min2_int max_two min_two max_three min_three max_four min_four
set_option linter.unusedVariables false
set_option linter.unusedSimpArgs false

/-! ### impl_IsPrime: function 76 -/
end Go.Proofs.YtijmdlhcidjpmaaDoor.P

namespace Go.Proofs.YtijmdlhcidjpmaaDoor.P
open Go.RowKit Go.Proofs.YtijmdlhcidjpmaaDoorW.PrintWords Go.Proofs.YtijmdlhcidjpmaaDoorW.PrintLast Go.Proofs.YtijmdlhcidjpmaaDoorW.PrintMore
attribute [local go_sem] max2_int min2_int max_two min_two max_three min_three max_four min_four
set_option linter.unusedVariables false
set_option linter.unusedSimpArgs false

/-! ### impl_areElements: function 79 (by hand) -/
end Go.Proofs.YtijmdlhcidjpmaaDoor.P

namespace Go.Proofs.YtijmdlhcidjpmaaDoor.P
open Go.RowKit Go.Proofs.YtijmdlhcidjpmaaDoorW.PrintWords Go.Proofs.YtijmdlhcidjpmaaDoorW.PrintLast Go.Proofs.YtijmdlhcidjpmaaDoorW.PrintMore
attribute [local go_sem] max2_int min2_int max_two min_two max_three min_three max_four min_four
set_option linter.unusedVariables false
set_option linter.unusedSimpArgs false

/-! ### spec_IsPrime: function 73 -/
end Go.Proofs.YtijmdlhcidjpmaaDoor.P

namespace Go.Proofs.YtijmdlhcidjpmaaDoor.P
open Go.RowKit Go.Proofs.YtijmdlhcidjpmaaDoorW.PrintWords Go.Proofs.YtijmdlhcidjpmaaDoorW.PrintLast Go.Proofs.YtijmdlhcidjpmaaDoorW.PrintMore
attribute [local go_sem] max2_int min2_int max_two min_two max_three min_three max_four min_four
set_option linter.unusedVariables false
set_option linter.unusedSimpArgs false

theorem impl_within_eq (n lo hi : Int) : impl_within.f n lo hi = some (decide (lo ≤ n ∧ n ≤ hi)) := by
  unfold impl_within.f
  by_cases h : n ≥ lo
  · rw [if_pos h]; congr 1; by_cases h2 : n ≤ hi <;> simp [h, h2]
  · rw [if_neg h]; congr 1; simp; omega
theorem spec_l00In_eq (n lo hi : Int) : spec_l00In.f n lo hi = some (decide (lo ≤ n ∧ n ≤ hi)) := by
  unfold spec_l00In.f
  by_cases h : n ≥ lo
  · rw [if_pos h]; congr 1; by_cases h2 : n ≤ hi <;> simp [h, h2]
  · rw [if_neg h]; congr 1; simp; omega
end Go.Proofs.YtijmdlhcidjpmaaDoor.P

namespace Go.Proofs.YtijmdlhcidjpmaaDoor.P
open Go.RowKit Go.Proofs.YtijmdlhcidjpmaaDoorW.PrintWords Go.Proofs.YtijmdlhcidjpmaaDoorW.PrintLast Go.Proofs.YtijmdlhcidjpmaaDoorW.PrintMore
attribute [local go_sem] max2_int min2_int max_two min_two max_three min_three max_four min_four
set_option linter.unusedVariables false
set_option linter.unusedSimpArgs false

theorem wr {x : Int} (h1 : -9223372036854775808 ≤ x) (h2 : x ≤ 9223372036854775807) : wrap64 x = x := by
  unfold wrap64; omega
theorem rd_nat (xs : List Int) (i : Nat) (h : i < xs.length) : rd xs (i : Int) = xs[i] := by
  simp [rd, h]
end Go.Proofs.YtijmdlhcidjpmaaDoor.P

namespace Go.Proofs.YtijmdlhcidjpmaaDoor.P
open Go.RowKit Go.Proofs.YtijmdlhcidjpmaaDoorW.PrintWords Go.Proofs.YtijmdlhcidjpmaaDoorW.PrintLast Go.Proofs.YtijmdlhcidjpmaaDoorW.PrintMore
attribute [local go_sem] max2_int min2_int max_two min_two max_three min_three max_four min_four
set_option linter.unusedVariables false
set_option linter.unusedSimpArgs false

/-! ### spec_l02Text: function 50 (by hand) -/
mutual
def spec_l02Text.l0 : Nat → S46 → ByteArray → Int → Option ByteArray
  | 0, _, _, _ => none
  | k + 1, x, s, i => if i < (x.f2.length : Int) then (if 0 ≤ i then (if s.size ≤ 1000000000 then ((spec_l02Text.f k (rd_T46 x.f2 i)).bind fun t => if t.size ≤ 1000000000 then (if 0 < i then spec_l02Text.l0 k x ((s ++ (⟨#[44, 32]⟩ : ByteArray)) ++ t) (wrap64 (i + 1)) else spec_l02Text.l0 k x (s ++ t) (wrap64 (i + 1))) else none) else none) else none) else (if s.size ≤ 1000000000 then some (s ++ (⟨#[41]⟩ : ByteArray)) else none)
def spec_l02Text.f : Nat → S46 → Option ByteArray
  | 0, _ => none
  | k + 1, x => if (x.f2.length : Int) = 0 then some (strOfNums ([(wrap64 (65 + x.f0)) % 256] : List Int)) else ((spec_Decimal.f k x.f1).bind fun d => if d.size ≤ 1000000000 then spec_l02Text.l0 k x (d ++ (⟨#[40]⟩ : ByteArray)) 0 else none)
end
set_option maxHeartbeats 8000000 in
set_option maxRecDepth 100000 in
theorem spec_l02Text.calls (k : Nat) : ∀ (ad : Addr) (x : S46) (r : ByteArray) (w : World) (hp : Kd.C k46 w (some ad) 1 [x]) (h : spec_l02Text.f k x = some r),
    Calls Tryd.prog 50 #[.pointer (some ad)] w fun e w' => e = .returned (.string r) ∧ Below w.heap.size w w' := by
  induction k using Nat.strongRecOn with
  | _ k ih =>
  intro ad x r w hp h
  cases k with
  | zero => exact absurd h (by simp [spec_l02Text.f])
  | succ k =>
  simp only [spec_l02Text.f] at h
  obtain ⟨A, c, hx0, hx1, hx2, hl, hC⟩ := gate_at hp
  have hq0 := Aside0.mk hx0
  have hq1 := Aside0.mk hx1
  have hq2 := Aside0.mk hx2
  have HC := Aside0.mk hC
  have IH := Aside0.mk ih
  have HB := Aside0.mk (Below.refl w.heap.size w)
  have hu29 := Tryd.underlying46
  clear hp hC hl ih
  by_cases c0 : (x.f2.length : Int) = 0
  · rw [if_pos c0] at h
    obtain rfl := Option.some.inj h
    clear h
    have c0b : ((x.f2.length : Int) == 0) = true := beq_iff_eq.mpr c0
    replace c0 := Aside0.mk c0
    go_enter Tryd.func50, Tryd.ntmps50
    go_wp2_with (first | ((with_reducible refine gate_dst (N := 17) rfl ?_); refine Kd.R_lit (Kd.int .u8) _ 5 ?hg (N := 17) ?hd (xs := ([(wrap64 (65 + x.f0)) % 256] : List Int)) (inner := [.int .u8 ((wrap64 (65 + x.f0)) % 256)]) (ok := fun _ => True) (okp := fun _ => True) ?hr ?hp (fun _ hk => hk) trivial (Below.refl _ _) (Nat.le_refl _) (by simp) ?_; (case hd => rfl); (case hg => rfl); (case hr => first | (go_simp; done) | (go_simp; rfl)); (case hp => exact (Reps.one (show Kd.M (Kd.int .u8) _ _ _ ((wrap64 (65 + x.f0)) % 256) [.int .u8 ((wrap64 (65 + x.f0)) % 256)] from rfl) (Reps.none _ _))); intro v17 w4 ho hb hg_ hnew_; clear hg_ hnew_; have HO := Aside0.mk ho; have n0_ := Aside0.mk (below_step (by repeat (first | (with_reducible first | exact HB.out | apply below_alloc | apply pw_below_drewN | apply below_drew1) | exact HB.out)) hb); clear HB hb ho; have HB := n0_; clear n0_; have hcv := own_string (P := Tryd.prog) Tryd.underlying108 Tryd.underlying5 Tryd.underlying9 (Kd.own_of_R HO.out)))
    go_ret
    exact ⟨by first | rfl | (simp; done), (by repeat (first | (with_reducible first | exact HB.out | apply below_alloc | apply pw_below_drewN | apply below_drew1) | exact HB.out))⟩
  · rw [if_neg c0] at h
    replace h := Option.bind_eq_some_iff.mp h
    obtain ⟨d, At, h⟩ := h
    have A8 := Aside0.mk At
    clear At
    by_cases c1 : d.size ≤ 1000000000
    case neg => rw [if_neg c1] at h; exact absurd h (by simp)
    rw [if_pos c1] at h
    have A1 := Aside0.mk h
    clear h
    have c0b : ((x.f2.length : Int) == 0) = false := beq_eq_false_iff_ne.mpr c0
    replace c0 := Aside0.mk c0
    have sz0a : (9223372036854775807 < d.size + 1) = False := eq_false (by omega)
    have sz0b : decide (d.size + 1 ≤ 9223372036854775807) = true := decide_eq_true (by omega)
    clear c1
    go_enter Tryd.func50, Tryd.ntmps50
    go_wp2_with (first | (go_at_call 38; (with_reducible refine (spec_Decimal.calls k x.f1 d _ A8.out).mono ?_); rintro e w3 ⟨rfl, hb⟩; have n0_ := Aside0.mk (below_step (by repeat (first | (with_reducible first | exact HB.out | apply below_alloc | apply pw_below_drewN | apply below_drew1) | exact HB.out)) hb); clear HB hb hx0 hx1 hx2; have HB := n0_; clear n0_; have hx0 : w3.cell? ad = some (.int .i64 x.f0) := (HB.out.cell (World.block_lt_of_cell? w _ hq0.out)).trans hq0.out; have hx1 : w3.cell? ⟨ad.block, ad.off + 1, none⟩ = some (.int .i64 x.f1) := (HB.out.cell (World.block_lt_of_cell? w _ hq1.out)).trans hq1.out; have hx2 : w3.cell? ⟨ad.block, ad.off + 2, none⟩ = some (.slice A x.f2.length c) := (HB.out.cell (World.block_lt_of_cell? w _ hq2.out)).trans hq2.out))
    go_loopg [3, 4] k (fun kq v3 v4 w' => ∃ (i : Int) (s : ByteArray), v3 = .string s ∧ v4 = .int .i64 i ∧ Aside0 (spec_l02Text.l0 kq x s i = some r) ∧ Aside0 (kq ≤ k) ∧ Aside0 (Below w.heap.size w w'))
    case atStart => exact ⟨0, d ++ (⟨#[40]⟩ : ByteArray), rfl, rfl, A1, ⟨Nat.le_refl _⟩, ⟨(by repeat (first | (with_reducible first | exact HB.out | apply below_alloc | apply pw_below_drewN | apply below_drew1) | exact HB.out))⟩⟩
    case round =>
      clear A1 HB hx0 hx1 hx2
      obtain ⟨i, s, rfl, rfl, HA, HK1, HB⟩ := hrel
      have hx0 : wr.cell? ad = some (.int .i64 x.f0) := (HB.out.cell (World.block_lt_of_cell? w _ hq0.out)).trans hq0.out
      have hx1 : wr.cell? ⟨ad.block, ad.off + 1, none⟩ = some (.int .i64 x.f1) := (HB.out.cell (World.block_lt_of_cell? w _ hq1.out)).trans hq1.out
      have hx2 : wr.cell? ⟨ad.block, ad.off + 2, none⟩ = some (.slice A x.f2.length c) := (HB.out.cell (World.block_lt_of_cell? w _ hq2.out)).trans hq2.out
      cases gk with
      | zero => exact absurd HA.out (by simp [spec_l02Text.l0])
      | succ k1 =>
        have H' := HA.out
        clear HA
        simp only [spec_l02Text.l0] at H'
        by_cases c6 : i < (x.f2.length : Int)
        · rw [if_pos c6] at H'
          by_cases c7 : 0 ≤ i
          case neg => rw [if_neg c7] at H'; exact absurd H' (by simp)
          rw [if_pos c7] at H'
          by_cases c8 : s.size ≤ 1000000000
          case neg => rw [if_neg c8] at H'; exact absurd H' (by simp)
          rw [if_pos c8] at H'
          replace H' := Option.bind_eq_some_iff.mp H'
          obtain ⟨t, At, H'⟩ := H'
          have A7 := Aside0.mk At
          clear At
          by_cases c9 : t.size ≤ 1000000000
          case neg => rw [if_neg c9] at H'; exact absurd H' (by simp)
          rw [if_pos c9] at H'
          have c6b0 : decide (i < (x.f2.length : Int)) = true := decide_eq_true c6
          have c7b0 : decide (0 ≤ i) = true := decide_eq_true c7
          obtain ⟨ad2, A2, c2, e2, _⟩ := at_T46 HC.out i c7 c6
          cases e2
          have HE := Aside0.mk (gate_el HC.out i c7 c6)
          replace c7 := eq_true c7
          replace c6 := eq_true c6
          have bs1 : ∀ u_ : UInt8, (⟨#[u_]⟩ : ByteArray).size = 1 := fun _ => rfl
          have bs2 : ∀ u_ v_ : UInt8, (⟨#[u_, v_]⟩ : ByteArray).size = 2 := fun _ _ => rfl
          by_cases c11 : 0 < i
          · rw [if_pos c11] at H'
            have HF := Aside0.mk H'
            clear H'
            have c11b : decide (0 < i) = true := decide_eq_true c11
            clear c11
            have sz0a : (9223372036854775807 < s.size + 2) = False := eq_false (by omega)
            have sz0b : decide (s.size + 2 ≤ 9223372036854775807) = true := decide_eq_true (by omega)
            have sz1a : (9223372036854775807 < s.size + 2 + t.size) = False := eq_false (by omega)
            have sz1b : decide (s.size + 2 + t.size ≤ 9223372036854775807) = true := decide_eq_true (by omega)
            have sz2a : (9223372036854775807 < (s ++ (⟨#[44, 32]⟩ : ByteArray)).size + t.size) = False := eq_false (by simp only [ByteArray.size_append, bs1, bs2]; omega)
            have sz2b : decide ((s ++ (⟨#[44, 32]⟩ : ByteArray)).size + t.size ≤ 9223372036854775807) = true := decide_eq_true (by simp only [ByteArray.size_append, bs1, bs2]; omega)
            clear c8 c9 bs1 bs2
            go_wp2_with (first | (go_at_call 50; (with_reducible refine (IH.out k1 (by have := HK1.out; omega) _ (rd_T46 x.f2 i) t _ ?sP A7.out).mono ?_); (case sP => exact Kd.C_below HE.out (by repeat (first | (with_reducible first | exact HB.out | apply below_alloc | apply pw_below_drewN | apply below_drew1) | exact HB.out))); rintro e w6 ⟨rfl, hb⟩; have n0_ := Aside0.mk (below_step (by repeat (first | (with_reducible first | exact HB.out | apply below_alloc | apply pw_below_drewN | apply below_drew1) | exact HB.out)) hb); clear HB hb hx0 hx1 hx2; have HB := n0_; clear n0_))
            go_roundg k1
            case measure => have := HK1.out; omega
            case rel => exact ⟨_, ((s ++ (⟨#[44, 32]⟩ : ByteArray)) ++ t), rfl, rfl, HF, ⟨by have := HK1.out; omega⟩, HB⟩
          · rw [if_neg c11] at H'
            have HF := Aside0.mk H'
            clear H'
            have c11b : decide (0 < i) = false := decide_eq_false c11
            clear c11
            have sz1a : (9223372036854775807 < s.size + t.size) = False := eq_false (by omega)
            have sz1b : decide (s.size + t.size ≤ 9223372036854775807) = true := decide_eq_true (by omega)
            clear c8 c9 bs1 bs2
            go_wp2_with (first | (go_at_call 50; (with_reducible refine (IH.out k1 (by have := HK1.out; omega) _ (rd_T46 x.f2 i) t _ ?sP A7.out).mono ?_); (case sP => exact Kd.C_below HE.out (by repeat (first | (with_reducible first | exact HB.out | apply below_alloc | apply pw_below_drewN | apply below_drew1) | exact HB.out))); rintro e w6 ⟨rfl, hb⟩; have n0_ := Aside0.mk (below_step (by repeat (first | (with_reducible first | exact HB.out | apply below_alloc | apply pw_below_drewN | apply below_drew1) | exact HB.out)) hb); clear HB hb hx0 hx1 hx2; have HB := n0_; clear n0_))
            go_roundg k1
            case measure => have := HK1.out; omega
            case rel => exact ⟨_, (s ++ t), rfl, rfl, HF, ⟨by have := HK1.out; omega⟩, HB⟩
        · rw [if_neg c6] at H'
          by_cases c8 : s.size ≤ 1000000000
          case neg => rw [if_neg c8] at H'; exact absurd H' (by simp)
          rw [if_pos c8] at H'
          obtain rfl := Option.some.inj H'
          clear H'
          have c6b0 : decide (i < (x.f2.length : Int)) = false := decide_eq_false c6
          clear c6
          have sz0a : (9223372036854775807 < s.size + 1) = False := eq_false (by omega)
          have sz0b : decide (s.size + 1 ≤ 9223372036854775807) = true := decide_eq_true (by omega)
          clear c8
          go_wp2
          go_ret
          exact ⟨by first | rfl | (simp; done), (by repeat (first | (with_reducible first | exact HB.out | apply below_alloc | apply pw_below_drewN | apply below_drew1) | exact HB.out))⟩

end Go.Proofs.YtijmdlhcidjpmaaDoor.P

namespace Go.Proofs.YtijmdlhcidjpmaaDoor.P
open Go.RowKit Go.Proofs.YtijmdlhcidjpmaaDoorW.PrintWords Go.Proofs.YtijmdlhcidjpmaaDoorW.PrintLast Go.Proofs.YtijmdlhcidjpmaaDoorW.PrintMore
attribute [local go_sem] max2_int min2_int max_two min_two max_three min_three max_four min_four
set_option linter.unusedVariables false
set_option linter.unusedSimpArgs false

/-! ### spec_GateText: function 20 (by hand) -/
def spec_GateText.f (k : Nat) (a0 : Int) (a1_0 : Int) (a1_1 : Int) (l1_2 : List S46) : Option ByteArray := (spec_l02Ok.f k a0 ⟨a1_0, a1_1, l1_2⟩).bind fun t => (if t = true then spec_l02Text.f k ⟨a1_0, a1_1, l1_2⟩ else some (⟨#[]⟩ : ByteArray))
set_option maxHeartbeats 8000000 in
set_option maxRecDepth 100000 in
theorem spec_GateText.calls (k : Nat) (a0 : Int) (a1_0 : Int) (a1_1 : Int) (A1_2 : Option Addr) (c1_2 : Nat) (l1_2 : List S46) (r : ByteArray) (w : World) (hr1_2 : Kd.C k46 w A1_2 l1_2.length l1_2) (hc1_2 : l1_2.length ≤ c1_2) (h : spec_GateText.f k a0 a1_0 a1_1 l1_2 = some r) :
    Calls Tryd.prog 20 #[.int .i64 a0, .agg #[.int .i64 a1_0, .int .i64 a1_1, .slice A1_2 l1_2.length c1_2]] w fun e w' => e = .returned (.string r) ∧ Below w.heap.size w w' := by
  have hu29 := Tryd.underlying46
  have HR := Aside0.mk hr1_2
  have HC := Aside0.mk hc1_2
  clear hr1_2 hc1_2
  have HB := Aside0.mk (Below.refl w.heap.size w)
  unfold spec_GateText.f at h
  replace h := Option.bind_eq_some_iff.mp h
  obtain ⟨t, At, H⟩ := h
  have A3 := Aside0.mk At
  clear At
  by_cases c4 : t = true
  · subst c4
    rw [if_pos rfl] at H
    have A4 := Aside0.mk H
    clear H
    go_enter Tryd.func20, Tryd.ntmps20
    go_wp2_with (first | ((with_reducible refine gate_dst (N := 3) rfl ?_); refine box_event ?hg (N := 3) ?hd (cs := #[.int .i64 a1_0, .int .i64 a1_1, .slice A1_2 l1_2.length c1_2]) (t := 46) ?hr ?_; (case hd => rfl); (case hg => rfl); (case hr => first | (go_simp; done) | (go_simp; rfl)); intro g3 hg w1 hbox hb; have n0_ := Aside0.mk (below_step (by repeat (first | (with_reducible first | exact HB.out | apply below_alloc | apply pw_below_drewN | apply below_drew1) | exact HB.out)) hb); have GW_g3 := Aside0.mk ((by rw [hg]; exact below_size (by repeat (first | (with_reducible first | exact HB.out | apply below_alloc | apply pw_below_drewN | apply below_drew1) | exact HB.out))) : w.heap.size ≤ g3); clear HB ; have HB := n0_; clear n0_; have BK_g3 := Aside0.mk hbox; clear hbox hb hg; have hz_g30 : w1.cell? ⟨g3, 0, none⟩ = some (.int .i64 a1_0) := (blk_cell BK_g3.out 0).trans rfl; have hz_g3f0 := blk_frozen BK_g3.out 0; have hz_g31 : w1.cell? ⟨g3, 1, none⟩ = some (.int .i64 a1_1) := (blk_cell BK_g3.out 1).trans rfl; have hz_g3f1 := blk_frozen BK_g3.out 1; have hz_g32 : w1.cell? ⟨g3, 2, none⟩ = some (.slice A1_2 l1_2.length c1_2) := (blk_cell BK_g3.out 2).trans rfl; have hz_g3f2 := blk_frozen BK_g3.out 2) | (go_at_call 49; (with_reducible refine (spec_l02Ok.calls k a0 _ ⟨a1_0, a1_1, l1_2⟩ true _ ?side1 A3.out).mono ?_); (case side1 => exact gate_box (by (with_reducible repeat (first | refine blk_drewN ?_ _ | refine blk_drew ?_ | refine blk_alloc ?_ _)); exact BK_g3.out) (Kd.C_below HR.out (by repeat (first | (with_reducible first | exact HB.out | apply below_alloc | apply pw_below_drewN | apply below_drew1) | exact HB.out))) HC.out); rintro e w' ⟨rfl, ⟨nd, rfl⟩⟩) | (go_at_call 50; (with_reducible refine (spec_l02Text.calls k _ ⟨a1_0, a1_1, l1_2⟩ r _ ?sP A4.out).mono ?_); (case sP => exact gate_box (by (with_reducible repeat (first | refine blk_drewN ?_ _ | refine blk_drew ?_ | refine blk_alloc ?_ _)); exact BK_g3.out) (Kd.C_below HR.out (by repeat (first | (with_reducible first | exact HB.out | apply below_alloc | apply pw_below_drewN | apply below_drew1) | exact HB.out))) HC.out); rintro e w6 ⟨rfl, hb⟩; have n0_ := Aside0.mk (below_step (by repeat (first | (with_reducible first | exact HB.out | apply below_alloc | apply pw_below_drewN | apply below_drew1) | exact HB.out)) hb); clear HB hb; have HB := n0_; clear n0_))
    go_ret
    exact ⟨rfl, (by repeat (first | (with_reducible first | exact HB.out | apply below_alloc | apply pw_below_drewN | apply below_drew1) | exact HB.out))⟩
  · replace c4 := Bool.eq_false_iff.mpr c4
    subst c4
    rw [if_neg (show ¬ (false = true) by decide)] at H
    obtain rfl := Option.some.inj H
    clear H
    go_enter Tryd.func20, Tryd.ntmps20
    go_wp2_with (first | ((with_reducible refine gate_dst (N := 3) rfl ?_); refine box_event ?hg (N := 3) ?hd (cs := #[.int .i64 a1_0, .int .i64 a1_1, .slice A1_2 l1_2.length c1_2]) (t := 46) ?hr ?_; (case hd => rfl); (case hg => rfl); (case hr => first | (go_simp; done) | (go_simp; rfl)); intro g3 hg w1 hbox hb; have n0_ := Aside0.mk (below_step (by repeat (first | (with_reducible first | exact HB.out | apply below_alloc | apply pw_below_drewN | apply below_drew1) | exact HB.out)) hb); have GW_g3 := Aside0.mk ((by rw [hg]; exact below_size (by repeat (first | (with_reducible first | exact HB.out | apply below_alloc | apply pw_below_drewN | apply below_drew1) | exact HB.out))) : w.heap.size ≤ g3); clear HB ; have HB := n0_; clear n0_; have BK_g3 := Aside0.mk hbox; clear hbox hb hg; have hz_g30 : w1.cell? ⟨g3, 0, none⟩ = some (.int .i64 a1_0) := (blk_cell BK_g3.out 0).trans rfl; have hz_g3f0 := blk_frozen BK_g3.out 0; have hz_g31 : w1.cell? ⟨g3, 1, none⟩ = some (.int .i64 a1_1) := (blk_cell BK_g3.out 1).trans rfl; have hz_g3f1 := blk_frozen BK_g3.out 1; have hz_g32 : w1.cell? ⟨g3, 2, none⟩ = some (.slice A1_2 l1_2.length c1_2) := (blk_cell BK_g3.out 2).trans rfl; have hz_g3f2 := blk_frozen BK_g3.out 2) | (go_at_call 49; (with_reducible refine (spec_l02Ok.calls k a0 _ ⟨a1_0, a1_1, l1_2⟩ false _ ?side1 A3.out).mono ?_); (case side1 => exact gate_box (by (with_reducible repeat (first | refine blk_drewN ?_ _ | refine blk_drew ?_ | refine blk_alloc ?_ _)); exact BK_g3.out) (Kd.C_below HR.out (by repeat (first | (with_reducible first | exact HB.out | apply below_alloc | apply pw_below_drewN | apply below_drew1) | exact HB.out))) HC.out); rintro e w' ⟨rfl, ⟨nd, rfl⟩⟩))
    go_ret
    exact ⟨rfl, (by repeat (first | (with_reducible first | exact HB.out | apply below_alloc | apply pw_below_drewN | apply below_drew1) | exact HB.out))⟩

end Go.Proofs.YtijmdlhcidjpmaaDoor.P

namespace Go.Proofs.YtijmdlhcidjpmaaDoor.P
open Go.RowKit Go.Proofs.YtijmdlhcidjpmaaDoorW.PrintWords Go.Proofs.YtijmdlhcidjpmaaDoorW.PrintLast Go.Proofs.YtijmdlhcidjpmaaDoorW.PrintMore
attribute [local go_sem] max2_int min2_int max_two min_two max_three min_three max_four min_four
set_option linter.unusedVariables false
set_option linter.unusedSimpArgs false

/-! ### impl_Gate_134: function 134 (by hand) -/
/-- slices.IndexFunc over gates: the place of the first element of which the closure says yes, or -1. -/
def idxG.l0 : Nat → (S46 → Option Bool) → List S46 → Int → Option Int
  | 0, _, _, _ => none
  | k + 1, p, xs, i => if i < (xs.length : Int) then (if 0 ≤ i then ((p (rd_T46 xs i)).bind fun t => if t = true then (some i) else (idxG.l0 k p xs (wrap64 (i + 1)))) else none) else some (-1)
set_option maxHeartbeats 8000000 in
set_option maxRecDepth 100000 in
theorem idxG.calls (k : Nat) (p : S46 → Option Bool) (g : Nat) (lb : Array Value) (eg : ∀ args w, (callFunc g args).run Tryd.prog w = .ok (.enter g args) w) (A0 : Option Addr) (c0 : Nat) (l0 : List S46) (r : Int) (w : World)
    (hr0 : Kd.C k46 w A0 l0.length l0)
    (hp : ∀ (W : World) (x : S46) (A : Option Addr) (c : Nat) (b : Bool), p x = some b → Below w.heap.size w W → Kd.C k46 W A x.f2.length x.f2 → x.f2.length ≤ c → Calls Tryd.prog g (#[.agg #[.int .i64 x.f0, .int .i64 x.f1, .slice A x.f2.length c]] ++ lb) W fun e w' => e = .returned (.bool b) ∧ Below w.heap.size w w')
    (h : idxG.l0 k p l0 0 = some r) :
    Calls Tryd.prog 134 #[.slice A0 l0.length c0, .func (.func g) #[] lb] w fun e w' => e = .returned (.int .i64 r) ∧ Below w.heap.size w w' := by
  have HR0 := Aside0.mk hr0
  clear hr0
  have HP := Aside0.mk hp
  clear hp
  have HB := Aside0.mk (Below.refl w.heap.size w)
  have H' := Aside0.mk h
  clear h
  have hum := Tryd.underlying46
  go_enter Tryd.func134, Tryd.ntmps134
  go_wp2
  go_loopg [5, 8] k (fun kq _ v8 w' => ∃ (x8 : Int), v8 = .int .i64 x8 ∧ Aside0 (idxG.l0 kq p l0 x8 = some r) ∧ Aside0 (kq ≤ k) ∧ Aside0 (Below w.heap.size w w'))
  case atStart => exact ⟨0, rfl, H', ⟨Nat.le_refl _⟩, HB⟩
  case round =>
    clear H' HB
    obtain ⟨x8, rfl, HA, HK1, HB⟩ := hrel
    cases gk with
    | zero => exact absurd HA.out (by simp [idxG.l0])
    | succ k1 =>
      have H := HA.out
      clear HA
      simp only [idxG.l0] at H
      by_cases c6 : x8 < (l0.length : Int)
      · rw [if_pos c6] at H
        have c6b0 : decide (x8 < (l0.length : Int)) = true := decide_eq_true c6
        clear c6
        by_cases c7 : 0 ≤ x8
        · rw [if_pos c7] at H
          have c7b0 : decide (0 ≤ x8) = true := decide_eq_true c7
          clear c7
          replace H := Option.bind_eq_some_iff.mp H
          obtain ⟨t, At, H⟩ := H
          have A3 := Aside0.mk At
          clear At
          have p104 : 0 ≤ (x8 : Int) := of_decide_eq_true (by assumption)
          have q104 : x8 < (l0.length : Int) := of_decide_eq_true (by assumption)
          obtain ⟨ad104, Ae, ce, e104, hx104_0, hx104_1, hx104_2, hle, hre⟩ := at_T46 HR0.out x8 p104 q104
          cases e104
          have HE := Aside0.mk (Kd.C_below hre HB.out)
          have HL := Aside0.mk hle
          clear hre hle
          replace hx104_0 := (HB.out.cell (World.block_lt_of_cell? w _ hx104_0)).trans hx104_0
          replace hx104_1 := (HB.out.cell (World.block_lt_of_cell? w _ hx104_1)).trans hx104_1
          replace hx104_2 := (HB.out.cell (World.block_lt_of_cell? w _ hx104_2)).trans hx104_2
          replace p104 := eq_true p104
          replace q104 := eq_true q104
          cases t with
          | true =>
            rw [if_pos rfl] at H
            obtain rfl := Option.some.inj H
            go_wp2_with (go_at_fn g; refine (HP.out _ _ _ _ _ A3.out HB.out HE.out HL.out).mono ?_; rintro e w' ⟨rfl, hb'⟩)
            go_ret
            exact ⟨rfl, hb'⟩
          | false =>
            rw [if_neg (by decide)] at H
            have H' := Aside0.mk H
            clear H
            go_wp2_with (go_at_fn g; refine (HP.out _ _ _ _ _ A3.out HB.out HE.out HL.out).mono ?_; rintro e w' ⟨rfl, hb'⟩)
            go_roundg k1
            case measure => have := HK1.out; omega
            case rel => exact ⟨_, rfl, H', ⟨by have := HK1.out; omega⟩, ⟨hb'⟩⟩
        · rw [if_neg c7] at H
          exact absurd H (by simp)
      · rw [if_neg c6] at H
        have c6b0 : decide (x8 < (l0.length : Int)) = false := decide_eq_false c6
        clear c6
        obtain rfl := Option.some.inj H
        go_wp2
        go_ret
        exact ⟨rfl, HB.out⟩
theorem idxG.mono_l : ∀ k p xs i, LeO (idxG.l0 k p xs i) (idxG.l0 (k + 1) p xs i)
  | 0, _, _, _ => fun r h => by simp [idxG.l0] at h
  | k + 1, p, xs, i => by
    have ih := idxG.mono_l k
    unfold idxG.l0
    refine LeO.ite (LeO.ite (LeO.bind (LeO.refl _) (fun t => LeO.ite (LeO.refl _) (ih _ _ _))) (LeO.refl _)) (LeO.refl _)
theorem idxG.mono_p : ∀ k p p' xs i, (∀ x, LeO (p x) (p' x)) → LeO (idxG.l0 k p xs i) (idxG.l0 k p' xs i)
  | 0, _, _, _, _, _ => fun r h => by simp [idxG.l0] at h
  | k + 1, p, p', xs, i, hp => by
    have ih := idxG.mono_p k p p'
    unfold idxG.l0
    refine LeO.ite (LeO.ite (LeO.bind (hp _) (fun t => LeO.ite (LeO.refl _) (ih _ _ hp))) (LeO.refl _)) (LeO.refl _)

end Go.Proofs.YtijmdlhcidjpmaaDoor.P

namespace Go.Proofs.YtijmdlhcidjpmaaDoor.P
open Go.RowKit Go.Proofs.YtijmdlhcidjpmaaDoorW.PrintWords Go.Proofs.YtijmdlhcidjpmaaDoorW.PrintLast Go.Proofs.YtijmdlhcidjpmaaDoorW.PrintMore
attribute [local go_sem] max2_int min2_int max_two min_two max_three min_three max_four min_four
set_option linter.unusedVariables false
set_option linter.unusedSimpArgs false

/-! ### impl_Gate_113: function 113 (by hand) -/
def hasG.f (k : Nat) (p : S46 → Option Bool) (xs : List S46) : Option Bool := (idxG.l0 k p xs 0).bind fun i => some (decide (0 ≤ i))
set_option maxHeartbeats 8000000 in
set_option maxRecDepth 100000 in
theorem hasG.calls (k : Nat) (p : S46 → Option Bool) (g : Nat) (lb : Array Value) (eg : ∀ args w, (callFunc g args).run Tryd.prog w = .ok (.enter g args) w) (A0 : Option Addr) (c0 : Nat) (l0 : List S46) (r : Bool) (w : World)
    (hr0 : Kd.C k46 w A0 l0.length l0)
    (hp : ∀ (W : World) (x : S46) (A : Option Addr) (c : Nat) (b : Bool), p x = some b → Below w.heap.size w W → Kd.C k46 W A x.f2.length x.f2 → x.f2.length ≤ c → Calls Tryd.prog g (#[.agg #[.int .i64 x.f0, .int .i64 x.f1, .slice A x.f2.length c]] ++ lb) W fun e w' => e = .returned (.bool b) ∧ Below w.heap.size w w')
    (h : hasG.f k p l0 = some r) :
    Calls Tryd.prog 113 #[.slice A0 l0.length c0, .func (.func g) #[] lb] w fun e w' => e = .returned (.bool r) ∧ Below w.heap.size w w' := by
  have H := h
  unfold hasG.f at H
  replace H := Option.bind_eq_some_iff.mp H
  obtain ⟨i, Ai, H⟩ := H
  obtain rfl := Option.some.inj H
  have A3 := Aside0.mk Ai
  clear Ai h H
  have HP := Aside0.mk hp
  clear hp
  have HR0 := Aside0.mk hr0
  clear hr0
  go_enter Tryd.func113, Tryd.ntmps113
  go_wp2_with (first | ((with_reducible refine gate_callee (f := 134) rfl ?_); refine goesL_ (some 7) rfl rfl Tryd.func134 (by kernel_rfl) rfl #[.slice A0 l0.length c0, .func (.func g) #[] lb] rfl (by (try simp only [List.map_toArray, List.map_cons, List.map_nil]); first | done | rfl) ?_; (with_reducible refine (idxG.calls k p g lb eg _ _ l0 i _ ?side1 ?side2 A3.out).mono ?_); (case side1 => exact HR0.out); (case side2 => exact HP.out); rintro e w' ⟨rfl, hb⟩; refine ⟨_, rfl, ?_⟩))
  go_ret
  exact ⟨rfl, hb⟩
theorem hasG.mono : ∀ p xs k, LeO (hasG.f k p xs) (hasG.f (k + 1) p xs) := fun p xs k => by
  unfold hasG.f
  exact LeO.bind (idxG.mono_l _ _ _ _) (fun _ => LeO.refl _)

end Go.Proofs.YtijmdlhcidjpmaaDoor.P

namespace Go.Proofs.YtijmdlhcidjpmaaDoor.P
open Go.RowKit Go.Proofs.YtijmdlhcidjpmaaDoorW.PrintWords Go.Proofs.YtijmdlhcidjpmaaDoorW.PrintLast Go.Proofs.YtijmdlhcidjpmaaDoorW.PrintMore
attribute [local go_sem] max2_int min2_int max_two min_two max_three min_three max_four min_four
set_option linter.unusedVariables false
set_option linter.unusedSimpArgs false

/-! ### impl_Gate_isLeaf: function 94 -/
def impl_Gate_isLeaf.f (a0_0 : Int) (a0_1 : Int) (l0_2 : List (S46)) : Option (Bool) := some ((l0_2.length : Int) == 0)
set_option maxHeartbeats 8000000 in
set_option maxRecDepth 100000 in
theorem impl_Gate_isLeaf.calls (a0_0 : Int) (a0_1 : Int) (A0_2 : Option Addr) (c0_2 : Nat) (l0_2 : List (S46)) (r : Bool) (w : World) (hr0_2 : Kd.C k46 w A0_2 l0_2.length l0_2) (hc0_2 : l0_2.length ≤ c0_2) (h : impl_Gate_isLeaf.f a0_0 a0_1 l0_2 = some r) :
    Calls Tryd.prog 94 #[.agg #[.int .i64 a0_0, .int .i64 a0_1, .slice A0_2 l0_2.length c0_2]] w fun e w' => e = .returned (.bool r) ∧ Below w.heap.size w w' := by
  have hu46 := Tryd.underlying46
  have HR0_2 := Aside0.mk hr0_2
  have HC0_2 := Aside0.mk hc0_2
  clear hr0_2 hc0_2
  have HB := Aside0.mk (Below.refl w.heap.size w)
  have H : (some ((l0_2.length : Int) == 0)) = some r := h
  clear h
  obtain rfl := Option.some.inj H
  go_enter Tryd.func94, Tryd.ntmps94
  go_wp2_with (first | ((with_reducible refine gate_dst (N := 1) rfl ?_); refine box_event ?hg (N := 1) ?hd (cs := #[.int .i64 a0_0, .int .i64 a0_1, .slice A0_2 l0_2.length c0_2]) (t := 46) ?hr ?_; (case hd => rfl); (case hg => rfl); (case hr => first | (go_simp; done) | (go_simp; rfl)); intro gb275 hg w2 hbox hb; have n0_ := Aside0.mk (below_step (by repeat (first | (with_reducible first | exact HB.out | apply below_alloc | apply pw_below_drewN | apply below_drew1) | exact HB.out)) hb); have n1_ := Aside0.mk (hbox); have n2_ := Aside0.mk ((by rw [hg]; exact (below_size (by repeat (first | (with_reducible first | exact HB.out | apply below_alloc | apply pw_below_drewN | apply below_drew1) | exact HB.out))) : w.heap.size ≤ gb275)); have n3_ := Aside0.mk ((by rw [hg]; exact (below_size (by repeat (first | (with_reducible first | exact HB.out | apply below_alloc | apply pw_below_drewN | apply below_drew1) | exact HB.out))) : w.heap.size ≤ gb275)); clear HB; have HB := n0_; have BK275 := n1_; have GW275 := n2_; have GE275 := n3_; clear n0_ n1_ n2_ n3_; clear hb hbox hg; have hcz3_0 : w2.cell? ⟨gb275, 0, none⟩ = some (.int .i64 a0_0) := (blk_cell BK275.out 0).trans rfl; have hcz3_1 : w2.cell? ⟨gb275, 1, none⟩ = some (.int .i64 a0_1) := (blk_cell BK275.out 1).trans rfl; have hcz3_2 : w2.cell? ⟨gb275, 2, none⟩ = some (.slice A0_2 l0_2.length c0_2) := (blk_cell BK275.out 2).trans rfl; have hfz3_0 := blk_frozen BK275.out 0; have hfz3_1 := blk_frozen BK275.out 1; have hfz3_2 := blk_frozen BK275.out 2))
  go_ret
  exact ⟨by first | rfl | (simp [errW_none, errW_some] <;> rfl) | (simp [*, errW_none, errW_some] <;> rfl), by repeat (first | (with_reducible first | exact HB.out | apply below_alloc | apply pw_below_drewN | apply below_drew1 | refine below_set ?_ GE275.out) | exact HB.out)⟩

end Go.Proofs.YtijmdlhcidjpmaaDoor.P

namespace Go.Proofs.YtijmdlhcidjpmaaDoor.P
open Go.RowKit Go.Proofs.YtijmdlhcidjpmaaDoorW.PrintWords Go.Proofs.YtijmdlhcidjpmaaDoorW.PrintLast Go.Proofs.YtijmdlhcidjpmaaDoorW.PrintMore
attribute [local go_sem] max2_int min2_int max_two min_two max_three min_three max_four min_four
set_option linter.unusedVariables false
set_option linter.unusedSimpArgs false

theorem blk_new_at {W : World} {o : Obj} {g : Nat} (h : g = W.heap.size) : (W.alloc o).heap[g]? = some o := by rw [h]; exact blk_new W o
end Go.Proofs.YtijmdlhcidjpmaaDoor.P

namespace Go.Proofs.YtijmdlhcidjpmaaDoor.P
open Go.RowKit Go.Proofs.YtijmdlhcidjpmaaDoorW.PrintWords Go.Proofs.YtijmdlhcidjpmaaDoorW.PrintLast Go.Proofs.YtijmdlhcidjpmaaDoorW.PrintMore
attribute [local go_sem] max2_int min2_int max_two min_two max_three min_three max_four min_four
set_option linter.unusedVariables false
set_option linter.unusedSimpArgs false

/-! ### impl_Gate_isFormed: function 92 (by hand) -/
def impl_Gate_isFormed.f : Nat → Int → Int → List S46 → Int → Int → Option Bool
  | 0, _, _, _, _, _ => none
  | k + 1, a, b, l, h, d => if d = 0 then some false else (if (l.length : Int) = 0 then ((impl_within.f a 0 (wrap64 (h - 1))).bind fun t => if t = true then some ((b : Int) == 0) else some false) else (if a = -1 then ((impl_within.f b 1 (l.length : Int)).bind fun u => if u = true then ((hasG.f k (fun x => (impl_Gate_isFormed.f k x.f0 x.f1 x.f2 h (wrap64 (d - 1))).bind fun t => some (!t)) l).bind fun v => some (!v)) else some false) else some false))
theorem idxG.mono_k (p p' : S46 → Option Bool) (hp : ∀ x, LeO (p x) (p' x)) : ∀ k xs, LeO (hasG.f k p xs) (hasG.f (k + 1) p' xs) := fun k xs => (hasG.mono p xs k).trans (LeO.bind (idxG.mono_p _ _ _ _ _ hp) (fun _ => LeO.refl _))
theorem impl_Gate_isFormed.mono_l : ∀ k a b l h d, LeO (impl_Gate_isFormed.f k a b l h d) (impl_Gate_isFormed.f (k + 1) a b l h d)
  | 0, _, _, _, _, _ => fun r h => by simp [impl_Gate_isFormed.f] at h
  | k + 1, a, b, l, h, d => by
    have ih := impl_Gate_isFormed.mono_l k
    unfold impl_Gate_isFormed.f
    exact LeO.ite (LeO.refl _) (LeO.ite (LeO.refl _) (LeO.ite (LeO.bind (LeO.refl _) (fun _ => LeO.ite (LeO.bind (idxG.mono_k _ _ (fun x => LeO.bind (ih _ _ _ _ _) (fun _ => LeO.refl _)) _ _) (fun _ => LeO.refl _)) (LeO.refl _))) (LeO.refl _)))
set_option maxHeartbeats 8000000 in
set_option maxRecDepth 100000 in
theorem isFormed_c.calls (k : Nat) (IH : ∀ (a0_0 : Int) (a0_1 : Int) (A0_2 : Option Addr) (c0_2 : Nat) (l0_2 : List S46) (a1 : Int) (a2 : Int) (r : Bool) (w : World) (hr0_2 : Kd.C k46 w A0_2 l0_2.length l0_2) (hc0_2 : l0_2.length ≤ c0_2) (h : impl_Gate_isFormed.f k a0_0 a0_1 l0_2 a1 a2 = some r), Calls Tryd.prog 92 #[.agg #[.int .i64 a0_0, .int .i64 a0_1, .slice A0_2 l0_2.length c0_2], .int .i64 a1, .int .i64 a2] w fun e w' => e = .returned (.bool r) ∧ Below w.heap.size w w') (h : Int) (d : Int) (B1 B2 : Nat) (x : S46) (A : Option Addr) (c : Nat) (b : Bool) (W : World) (hc1 : W.cell? ⟨B1, 0, none⟩ = some (.int .i64 h)) (hc2 : W.cell? ⟨B2, 0, none⟩ = some (.int .i64 d)) (hr : Kd.C k46 W A x.f2.length x.f2) (hc : x.f2.length ≤ c) (hh : ((impl_Gate_isFormed.f k x.f0 x.f1 x.f2 h (wrap64 (d - 1))).bind fun t => some (!t)) = some b) :
    Calls Tryd.prog 114 #[.agg #[.int .i64 x.f0, .int .i64 x.f1, .slice A x.f2.length c], .pointer (some ⟨B1, 0, none⟩), .pointer (some ⟨B2, 0, none⟩)] W fun e w' => e = .returned (.bool b) ∧ Below W.heap.size W w' := by
  have hum := Tryd.underlying46
  replace hh := Option.bind_eq_some_iff.mp hh
  obtain ⟨t, At, H⟩ := hh
  obtain rfl := Option.some.inj H
  have A3 := Aside0.mk At
  have HR := Aside0.mk hr
  have HC := Aside0.mk hc
  clear At H hr hc
  have z1 := ((below_alloc (Below.refl W.heap.size W) (.cells #[.int .i64 x.f0, .int .i64 x.f1, .slice A x.f2.length c] 46 (0, 0))).cell (World.block_lt_of_cell? W _ hc1)).trans hc1
  have z2 := ((below_alloc (Below.refl W.heap.size W) (.cells #[.int .i64 x.f0, .int .i64 x.f1, .slice A x.f2.length c] 46 (0, 0))).cell (World.block_lt_of_cell? W _ hc2)).trans hc2
  go_enter Tryd.func114, Tryd.ntmps114
  go_wp2_with (first | (go_at_call 92; (with_reducible refine (IH x.f0 x.f1 _ _ x.f2 h (wrap64 (d - 1)) t _ ?side1 ?side2 A3.out).mono ?_); (case side1 => exact (by repeat (first | exact HR.out | (with_reducible refine Kd.C_alloc ?_ _) | (with_reducible refine Kd.C_drewN ?_ _) | (with_reducible refine Kd.C_drew ?_)))); (case side2 => exact HC.out); rintro e w' ⟨rfl, hb⟩))
  go_ret
  exact ⟨rfl, below_step (by repeat (first | exact Below.refl _ _ | apply below_alloc | apply pw_below_drewN | apply below_drew1)) hb⟩
set_option maxHeartbeats 8000000 in
set_option maxRecDepth 100000 in
theorem impl_Gate_isFormed.calls (k : Nat) : ∀ (a0_0 : Int) (a0_1 : Int) (A0_2 : Option Addr) (c0_2 : Nat) (l0_2 : List S46) (a1 : Int) (a2 : Int) (r : Bool) (w : World) (hr0_2 : Kd.C k46 w A0_2 l0_2.length l0_2) (hc0_2 : l0_2.length ≤ c0_2) (h : impl_Gate_isFormed.f k a0_0 a0_1 l0_2 a1 a2 = some r),
    Calls Tryd.prog 92 #[.agg #[.int .i64 a0_0, .int .i64 a0_1, .slice A0_2 l0_2.length c0_2], .int .i64 a1, .int .i64 a2] w fun e w' => e = .returned (.bool r) ∧ Below w.heap.size w w' := by
  induction k with
  | zero => intro a0_0 a0_1 A0_2 c0_2 l0_2 a1 a2 r w hr0_2 hc0_2 h; exact absurd h (by simp [impl_Gate_isFormed.f])
  | succ k ih =>
  intro a0_0 a0_1 A0_2 c0_2 l0_2 a1 a2 r w hr0_2 hc0_2 h
  simp only [impl_Gate_isFormed.f] at h
  have IH := Aside0.mk ih
  clear ih
  have HR := Aside0.mk hr0_2
  have HC := Aside0.mk hc0_2
  clear hr0_2 hc0_2
  have hum := Tryd.underlying46
  have eg : ∀ (args : Array Value) (w : World), (callFunc 114 args).run Tryd.prog w = .ok (.enter 114 args) w := enters_of Tryd.func114 (by kernel_rfl) rfl
  by_cases c1 : a2 = 0
  · rw [if_pos c1] at h
    have c1b0 : ((a2 : Int) == 0) = true := beq_iff_eq.mpr c1
    have c1b1 : ((a2 : Int) != 0) = false := bne_eq_false_iff_eq.mpr c1
    clear c1
    obtain rfl := Option.some.inj h
    clear h
    go_enter Tryd.func92, Tryd.ntmps92
    go_wp2
    go_ret
    exact ⟨rfl, (by repeat (first | exact Below.refl _ _ | apply below_alloc | apply pw_below_drewN | apply below_drew1))⟩
  · rw [if_neg c1] at h
    have c1b0 : ((a2 : Int) == 0) = false := beq_eq_false_iff_ne.mpr c1
    have c1b1 : ((a2 : Int) != 0) = true := bne_iff_ne.mpr c1
    clear c1
    by_cases c2 : (l0_2.length : Int) = 0
    · rw [if_pos c2] at h
      have c2b0 : (((l0_2.length : Int) : Int) == 0) = true := beq_iff_eq.mpr c2
      have c2b1 : (((l0_2.length : Int) : Int) != 0) = false := bne_eq_false_iff_eq.mpr c2
      have A0 : Aside0 (impl_Gate_isLeaf.f a0_0 a0_1 l0_2 = some true) := ⟨by unfold impl_Gate_isLeaf.f; rw [c2b0]⟩
      clear c2 c2b0 c2b1
      replace h := Option.bind_eq_some_iff.mp h
      obtain ⟨t, At, h⟩ := h
      have A1 := Aside0.mk At
      clear At
      cases t with
      | true =>
        rw [if_pos rfl] at h
        obtain rfl := Option.some.inj h
        clear h
        go_enter Tryd.func92, Tryd.ntmps92
        go_wp2_with (first | (go_at_call 94; (with_reducible refine (impl_Gate_isLeaf.calls a0_0 a0_1 _ _ l0_2 _ _ ?side1 ?side2 A0.out).mono ?_); (case side1 => exact (by repeat (first | exact HR.out | (with_reducible refine Kd.C_alloc ?_ _) | (with_reducible refine Kd.C_drewN ?_ _) | (with_reducible refine Kd.C_drew ?_)))); (case side2 => exact HC.out); rintro e w1 ⟨rfl, hb⟩; have n1_ := Aside0.mk (blk_below (g := w.heap.size) (o := .cells #[.int .i64 a0_0, .int .i64 a0_1, .slice A0_2 l0_2.length c0_2] 46 (0, 0)) (by repeat (first | exact blk_new_at (by simp) | (with_reducible refine blk_drewN ?_ _) | (with_reducible refine blk_drew ?_) | (with_reducible refine blk_alloc ?_ _))) hb); have n2_ := Aside0.mk (blk_below (g := w.heap.size + 1) (o := .cells #[.int .i64 a1] 2 (0, 0)) (by repeat (first | exact blk_new_at (by simp) | (with_reducible refine blk_drewN ?_ _) | (with_reducible refine blk_drew ?_) | (with_reducible refine blk_alloc ?_ _))) hb); have n3_ := Aside0.mk (blk_below (g := w.heap.size + 2) (o := .cells #[.int .i64 a2] 3 (0, 0)) (by repeat (first | exact blk_new_at (by simp) | (with_reducible refine blk_drewN ?_ _) | (with_reducible refine blk_drew ?_) | (with_reducible refine blk_alloc ?_ _))) hb); have n9_ : Aside0 (Below w.heap.size w w1) := Aside0.mk (below_step (by repeat (first | exact Below.refl _ _ | apply below_alloc | apply pw_below_drewN | apply below_drew1)) hb); clear hb; have hl1 : w.heap.size + 2 < w1.heap.size := blk_lt n3_.out; have hx0 : w1.cell? ⟨w.heap.size, 0, none⟩ = some (.int .i64 a0_0) := (blk_cell n1_.out 0).trans rfl; have hx1 : w1.cell? ⟨w.heap.size, 1, none⟩ = some (.int .i64 a0_1) := (blk_cell n1_.out 1).trans rfl; have hx2 : w1.cell? ⟨w.heap.size, 2, none⟩ = some (.slice A0_2 l0_2.length c0_2) := (blk_cell n1_.out 2).trans rfl; have hy0 : w1.cell? ⟨w.heap.size + 1, 0, none⟩ = some (.int .i64 a1) := (blk_cell n2_.out 0).trans rfl; have hz0 : w1.cell? ⟨w.heap.size + 2, 0, none⟩ = some (.int .i64 a2) := (blk_cell n3_.out 0).trans rfl) | (go_at_call 57; (with_reducible refine (impl_within.calls a0_0 0 (wrap64 (a1 - 1)) true _ A1.out).mono ?_); rintro e w' ⟨rfl, ⟨nd, rfl⟩⟩))
        go_ret
        exact ⟨(by first | rfl | (simp; done) | (simp [*]; done)), (by repeat (first | exact n9_.out | apply below_alloc | apply pw_below_drewN | apply below_drew1))⟩
      | false =>
        rw [if_neg (by decide)] at h
        obtain rfl := Option.some.inj h
        clear h
        go_enter Tryd.func92, Tryd.ntmps92
        go_wp2_with (first | (go_at_call 94; (with_reducible refine (impl_Gate_isLeaf.calls a0_0 a0_1 _ _ l0_2 _ _ ?side1 ?side2 A0.out).mono ?_); (case side1 => exact (by repeat (first | exact HR.out | (with_reducible refine Kd.C_alloc ?_ _) | (with_reducible refine Kd.C_drewN ?_ _) | (with_reducible refine Kd.C_drew ?_)))); (case side2 => exact HC.out); rintro e w1 ⟨rfl, hb⟩; have n1_ := Aside0.mk (blk_below (g := w.heap.size) (o := .cells #[.int .i64 a0_0, .int .i64 a0_1, .slice A0_2 l0_2.length c0_2] 46 (0, 0)) (by repeat (first | exact blk_new_at (by simp) | (with_reducible refine blk_drewN ?_ _) | (with_reducible refine blk_drew ?_) | (with_reducible refine blk_alloc ?_ _))) hb); have n2_ := Aside0.mk (blk_below (g := w.heap.size + 1) (o := .cells #[.int .i64 a1] 2 (0, 0)) (by repeat (first | exact blk_new_at (by simp) | (with_reducible refine blk_drewN ?_ _) | (with_reducible refine blk_drew ?_) | (with_reducible refine blk_alloc ?_ _))) hb); have n3_ := Aside0.mk (blk_below (g := w.heap.size + 2) (o := .cells #[.int .i64 a2] 3 (0, 0)) (by repeat (first | exact blk_new_at (by simp) | (with_reducible refine blk_drewN ?_ _) | (with_reducible refine blk_drew ?_) | (with_reducible refine blk_alloc ?_ _))) hb); have n9_ : Aside0 (Below w.heap.size w w1) := Aside0.mk (below_step (by repeat (first | exact Below.refl _ _ | apply below_alloc | apply pw_below_drewN | apply below_drew1)) hb); clear hb; have hl1 : w.heap.size + 2 < w1.heap.size := blk_lt n3_.out; have hx0 : w1.cell? ⟨w.heap.size, 0, none⟩ = some (.int .i64 a0_0) := (blk_cell n1_.out 0).trans rfl; have hx1 : w1.cell? ⟨w.heap.size, 1, none⟩ = some (.int .i64 a0_1) := (blk_cell n1_.out 1).trans rfl; have hx2 : w1.cell? ⟨w.heap.size, 2, none⟩ = some (.slice A0_2 l0_2.length c0_2) := (blk_cell n1_.out 2).trans rfl; have hy0 : w1.cell? ⟨w.heap.size + 1, 0, none⟩ = some (.int .i64 a1) := (blk_cell n2_.out 0).trans rfl; have hz0 : w1.cell? ⟨w.heap.size + 2, 0, none⟩ = some (.int .i64 a2) := (blk_cell n3_.out 0).trans rfl) | (go_at_call 57; (with_reducible refine (impl_within.calls a0_0 0 (wrap64 (a1 - 1)) false _ A1.out).mono ?_); rintro e w' ⟨rfl, ⟨nd, rfl⟩⟩))
        go_ret
        exact ⟨(by first | rfl | (simp; done) | (simp [*]; done)), (by repeat (first | exact n9_.out | apply below_alloc | apply pw_below_drewN | apply below_drew1))⟩
    · rw [if_neg c2] at h
      have c2b0 : (((l0_2.length : Int) : Int) == 0) = false := beq_eq_false_iff_ne.mpr c2
      have c2b1 : (((l0_2.length : Int) : Int) != 0) = true := bne_iff_ne.mpr c2
      have A0 : Aside0 (impl_Gate_isLeaf.f a0_0 a0_1 l0_2 = some false) := ⟨by unfold impl_Gate_isLeaf.f; rw [c2b0]⟩
      clear c2 c2b0 c2b1
      by_cases c3 : a0_0 = -1
      · rw [if_pos c3] at h
        have c3b0 : ((a0_0 : Int) == -1) = true := beq_iff_eq.mpr c3
        have c3b1 : ((a0_0 : Int) != -1) = false := bne_eq_false_iff_eq.mpr c3
        clear c3
        replace h := Option.bind_eq_some_iff.mp h
        obtain ⟨u, Au, h⟩ := h
        have A1 := Aside0.mk Au
        clear Au
        cases u with
        | true =>
          rw [if_pos rfl] at h
          replace h := Option.bind_eq_some_iff.mp h
          obtain ⟨v, Av, h⟩ := h
          have A2 := Aside0.mk Av
          clear Av
          obtain rfl := Option.some.inj h
          clear h
          go_enter Tryd.func92, Tryd.ntmps92
          go_wp2_with (first | (go_at_call 94; (with_reducible refine (impl_Gate_isLeaf.calls a0_0 a0_1 _ _ l0_2 _ _ ?side1 ?side2 A0.out).mono ?_); (case side1 => exact (by repeat (first | exact HR.out | (with_reducible refine Kd.C_alloc ?_ _) | (with_reducible refine Kd.C_drewN ?_ _) | (with_reducible refine Kd.C_drew ?_)))); (case side2 => exact HC.out); rintro e w1 ⟨rfl, hb⟩; have n1_ := Aside0.mk (blk_below (g := w.heap.size) (o := .cells #[.int .i64 a0_0, .int .i64 a0_1, .slice A0_2 l0_2.length c0_2] 46 (0, 0)) (by repeat (first | exact blk_new_at (by simp) | (with_reducible refine blk_drewN ?_ _) | (with_reducible refine blk_drew ?_) | (with_reducible refine blk_alloc ?_ _))) hb); have n2_ := Aside0.mk (blk_below (g := w.heap.size + 1) (o := .cells #[.int .i64 a1] 2 (0, 0)) (by repeat (first | exact blk_new_at (by simp) | (with_reducible refine blk_drewN ?_ _) | (with_reducible refine blk_drew ?_) | (with_reducible refine blk_alloc ?_ _))) hb); have n3_ := Aside0.mk (blk_below (g := w.heap.size + 2) (o := .cells #[.int .i64 a2] 3 (0, 0)) (by repeat (first | exact blk_new_at (by simp) | (with_reducible refine blk_drewN ?_ _) | (with_reducible refine blk_drew ?_) | (with_reducible refine blk_alloc ?_ _))) hb); have n9_ : Aside0 (Below w.heap.size w w1) := Aside0.mk (below_step (by repeat (first | exact Below.refl _ _ | apply below_alloc | apply pw_below_drewN | apply below_drew1)) hb); clear hb; have hl1 : w.heap.size + 2 < w1.heap.size := blk_lt n3_.out; have hx0 : w1.cell? ⟨w.heap.size, 0, none⟩ = some (.int .i64 a0_0) := (blk_cell n1_.out 0).trans rfl; have hx1 : w1.cell? ⟨w.heap.size, 1, none⟩ = some (.int .i64 a0_1) := (blk_cell n1_.out 1).trans rfl; have hx2 : w1.cell? ⟨w.heap.size, 2, none⟩ = some (.slice A0_2 l0_2.length c0_2) := (blk_cell n1_.out 2).trans rfl; have hy0 : w1.cell? ⟨w.heap.size + 1, 0, none⟩ = some (.int .i64 a1) := (blk_cell n2_.out 0).trans rfl; have hz0 : w1.cell? ⟨w.heap.size + 2, 0, none⟩ = some (.int .i64 a2) := (blk_cell n3_.out 0).trans rfl) | (go_at_call 57; (with_reducible refine (impl_within.calls a0_1 1 (l0_2.length : Int) true _ A1.out).mono ?_); rintro e w' ⟨rfl, ⟨nd, rfl⟩⟩) | (go_at_call 113; (with_reducible refine (hasG.calls k (fun x => (impl_Gate_isFormed.f k x.f0 x.f1 x.f2 a1 (wrap64 (a2 - 1))).bind fun t => some (!t)) 114 #[.pointer (some ⟨w.heap.size + 1, 0, none⟩), .pointer (some ⟨w.heap.size + 2, 0, none⟩)] eg _ _ l0_2 v _ ?side1 ?side2 A2.out).mono ?_); (case side1 => exact Kd.C_below HR.out (by repeat (first | exact n9_.out | apply below_alloc | apply pw_below_drewN | apply below_drew1))); (case side2 => exact fun W x A c b hx hb hr hc => (isFormed_c.calls k IH.out a1 a2 (w.heap.size + 1) (w.heap.size + 2) x A c b W ((hb.cell (p := ⟨w.heap.size + 1, 0, none⟩) (by simp; omega)).trans ((by first | exact hy0 | simpa using hy0))) ((hb.cell (p := ⟨w.heap.size + 2, 0, none⟩) (by simp; omega)).trans ((by first | exact hz0 | simpa using hz0))) hr hc hx).mono (fun e w' ⟨he, hd⟩ => ⟨he, below_step hb hd⟩)); rintro e w2 ⟨rfl, hb⟩))
          go_ret
          exact ⟨rfl, below_step (by repeat (first | exact n9_.out | apply below_alloc | apply pw_below_drewN | apply below_drew1)) hb⟩
        | false =>
          rw [if_neg (by decide)] at h
          obtain rfl := Option.some.inj h
          clear h
          go_enter Tryd.func92, Tryd.ntmps92
          go_wp2_with (first | (go_at_call 94; (with_reducible refine (impl_Gate_isLeaf.calls a0_0 a0_1 _ _ l0_2 _ _ ?side1 ?side2 A0.out).mono ?_); (case side1 => exact (by repeat (first | exact HR.out | (with_reducible refine Kd.C_alloc ?_ _) | (with_reducible refine Kd.C_drewN ?_ _) | (with_reducible refine Kd.C_drew ?_)))); (case side2 => exact HC.out); rintro e w1 ⟨rfl, hb⟩; have n1_ := Aside0.mk (blk_below (g := w.heap.size) (o := .cells #[.int .i64 a0_0, .int .i64 a0_1, .slice A0_2 l0_2.length c0_2] 46 (0, 0)) (by repeat (first | exact blk_new_at (by simp) | (with_reducible refine blk_drewN ?_ _) | (with_reducible refine blk_drew ?_) | (with_reducible refine blk_alloc ?_ _))) hb); have n2_ := Aside0.mk (blk_below (g := w.heap.size + 1) (o := .cells #[.int .i64 a1] 2 (0, 0)) (by repeat (first | exact blk_new_at (by simp) | (with_reducible refine blk_drewN ?_ _) | (with_reducible refine blk_drew ?_) | (with_reducible refine blk_alloc ?_ _))) hb); have n3_ := Aside0.mk (blk_below (g := w.heap.size + 2) (o := .cells #[.int .i64 a2] 3 (0, 0)) (by repeat (first | exact blk_new_at (by simp) | (with_reducible refine blk_drewN ?_ _) | (with_reducible refine blk_drew ?_) | (with_reducible refine blk_alloc ?_ _))) hb); have n9_ : Aside0 (Below w.heap.size w w1) := Aside0.mk (below_step (by repeat (first | exact Below.refl _ _ | apply below_alloc | apply pw_below_drewN | apply below_drew1)) hb); clear hb; have hl1 : w.heap.size + 2 < w1.heap.size := blk_lt n3_.out; have hx0 : w1.cell? ⟨w.heap.size, 0, none⟩ = some (.int .i64 a0_0) := (blk_cell n1_.out 0).trans rfl; have hx1 : w1.cell? ⟨w.heap.size, 1, none⟩ = some (.int .i64 a0_1) := (blk_cell n1_.out 1).trans rfl; have hx2 : w1.cell? ⟨w.heap.size, 2, none⟩ = some (.slice A0_2 l0_2.length c0_2) := (blk_cell n1_.out 2).trans rfl; have hy0 : w1.cell? ⟨w.heap.size + 1, 0, none⟩ = some (.int .i64 a1) := (blk_cell n2_.out 0).trans rfl; have hz0 : w1.cell? ⟨w.heap.size + 2, 0, none⟩ = some (.int .i64 a2) := (blk_cell n3_.out 0).trans rfl) | (go_at_call 57; (with_reducible refine (impl_within.calls a0_1 1 (l0_2.length : Int) false _ A1.out).mono ?_); rintro e w' ⟨rfl, ⟨nd, rfl⟩⟩))
          go_ret
          exact ⟨(by first | rfl | (simp; done) | (simp [*]; done)), (by repeat (first | exact n9_.out | apply below_alloc | apply pw_below_drewN | apply below_drew1))⟩
      · rw [if_neg c3] at h
        have c3b0 : ((a0_0 : Int) == -1) = false := beq_eq_false_iff_ne.mpr c3
        have c3b1 : ((a0_0 : Int) != -1) = true := bne_iff_ne.mpr c3
        clear c3
        obtain rfl := Option.some.inj h
        clear h
        go_enter Tryd.func92, Tryd.ntmps92
        go_wp2_with (first | (go_at_call 94; (with_reducible refine (impl_Gate_isLeaf.calls a0_0 a0_1 _ _ l0_2 _ _ ?side1 ?side2 A0.out).mono ?_); (case side1 => exact (by repeat (first | exact HR.out | (with_reducible refine Kd.C_alloc ?_ _) | (with_reducible refine Kd.C_drewN ?_ _) | (with_reducible refine Kd.C_drew ?_)))); (case side2 => exact HC.out); rintro e w1 ⟨rfl, hb⟩; have n1_ := Aside0.mk (blk_below (g := w.heap.size) (o := .cells #[.int .i64 a0_0, .int .i64 a0_1, .slice A0_2 l0_2.length c0_2] 46 (0, 0)) (by repeat (first | exact blk_new_at (by simp) | (with_reducible refine blk_drewN ?_ _) | (with_reducible refine blk_drew ?_) | (with_reducible refine blk_alloc ?_ _))) hb); have n2_ := Aside0.mk (blk_below (g := w.heap.size + 1) (o := .cells #[.int .i64 a1] 2 (0, 0)) (by repeat (first | exact blk_new_at (by simp) | (with_reducible refine blk_drewN ?_ _) | (with_reducible refine blk_drew ?_) | (with_reducible refine blk_alloc ?_ _))) hb); have n3_ := Aside0.mk (blk_below (g := w.heap.size + 2) (o := .cells #[.int .i64 a2] 3 (0, 0)) (by repeat (first | exact blk_new_at (by simp) | (with_reducible refine blk_drewN ?_ _) | (with_reducible refine blk_drew ?_) | (with_reducible refine blk_alloc ?_ _))) hb); have n9_ : Aside0 (Below w.heap.size w w1) := Aside0.mk (below_step (by repeat (first | exact Below.refl _ _ | apply below_alloc | apply pw_below_drewN | apply below_drew1)) hb); clear hb; have hl1 : w.heap.size + 2 < w1.heap.size := blk_lt n3_.out; have hx0 : w1.cell? ⟨w.heap.size, 0, none⟩ = some (.int .i64 a0_0) := (blk_cell n1_.out 0).trans rfl; have hx1 : w1.cell? ⟨w.heap.size, 1, none⟩ = some (.int .i64 a0_1) := (blk_cell n1_.out 1).trans rfl; have hx2 : w1.cell? ⟨w.heap.size, 2, none⟩ = some (.slice A0_2 l0_2.length c0_2) := (blk_cell n1_.out 2).trans rfl; have hy0 : w1.cell? ⟨w.heap.size + 1, 0, none⟩ = some (.int .i64 a1) := (blk_cell n2_.out 0).trans rfl; have hz0 : w1.cell? ⟨w.heap.size + 2, 0, none⟩ = some (.int .i64 a2) := (blk_cell n3_.out 0).trans rfl))
        go_ret
        exact ⟨(by first | rfl | (simp; done) | (simp [*]; done)), (by repeat (first | exact n9_.out | apply below_alloc | apply pw_below_drewN | apply below_drew1))⟩

end Go.Proofs.YtijmdlhcidjpmaaDoor.P

namespace Go.Proofs.YtijmdlhcidjpmaaDoor.P
open Go.RowKit Go.Proofs.YtijmdlhcidjpmaaDoorW.PrintWords Go.Proofs.YtijmdlhcidjpmaaDoorW.PrintLast Go.Proofs.YtijmdlhcidjpmaaDoorW.PrintMore
attribute [local go_sem] max2_int min2_int max_two min_two max_three min_three max_four min_four
set_option linter.unusedVariables false
set_option linter.unusedSimpArgs false

/-! ### impl_GateSize: function 93 -/
mutual
def impl_GateSize.l0 : Nat → Int → List (S46) → Int → Int → Option (Int)
  | 0, _, _, _, _ => none
  | k + 1, x3, x7, x8, x9 => if x9 < x8 then (if 0 ≤ x9 then (if x9 < (x7.length : Int) then ((impl_GateSize.f k ((rd_T46 x7 x9).f0) ((rd_T46 x7 x9).f1) ((rd_T46 x7 x9).f2)).bind fun t279 => (impl_GateSize.l0 k (wrap64 (x3 + t279)) x7 x8 (wrap64 (x9 + 1)))) else (none)) else (none)) else (some x3)
def impl_GateSize.f : Nat → Int → Int → List (S46) → Option (Int)
  | 0, _, _, _ => none
  | k + 1, a0_0, a0_1, l0_2 => impl_GateSize.l0 k 1 l0_2 (l0_2.length : Int) 0
end
set_option maxHeartbeats 8000000 in
set_option maxRecDepth 100000 in
theorem impl_GateSize.calls (k : Nat) : ∀ (a0_0 : Int) (a0_1 : Int) (A0_2 : Option Addr) (c0_2 : Nat) (l0_2 : List (S46)) (r : Int) (w : World) (hr0_2 : Kd.C k46 w A0_2 l0_2.length l0_2) (hc0_2 : l0_2.length ≤ c0_2) (h : impl_GateSize.f k a0_0 a0_1 l0_2 = some r),
    Calls Tryd.prog 93 #[.agg #[.int .i64 a0_0, .int .i64 a0_1, .slice A0_2 l0_2.length c0_2]] w fun e w' => e = .returned (.int .i64 r) ∧ Below w.heap.size w w' := by
  induction k using Nat.strongRecOn with
  | _ k ih =>
  intro a0_0 a0_1 A0_2 c0_2 l0_2 r w hr0_2 hc0_2 h
  cases k with
  | zero => exact absurd h (by simp [impl_GateSize.f])
  | succ k =>
  simp only [impl_GateSize.f] at h
  have hu46 := Tryd.underlying46
  have HR0_2 := Aside0.mk hr0_2
  have HC0_2 := Aside0.mk hc0_2
  clear hr0_2 hc0_2
  have HB := Aside0.mk (Below.refl w.heap.size w)
  have H : (impl_GateSize.l0 k 1 l0_2 (l0_2.length : Int) 0) = some r := h
  clear h
  have H' := Aside0.mk H
  clear H
  go_enter Tryd.func93, Tryd.ntmps93
  go_wp2_with (first | ((with_reducible refine gate_dst (N := 1) rfl ?_); refine box_event ?hg (N := 1) ?hd (cs := #[.int .i64 a0_0, .int .i64 a0_1, .slice A0_2 l0_2.length c0_2]) (t := 46) ?hr ?_; (case hd => rfl); (case hg => rfl); (case hr => first | (go_simp; done) | (go_simp; rfl)); intro gb276 hg w2 hbox hb; have n0_ := Aside0.mk (below_step (by repeat (first | (with_reducible first | exact HB.out | apply below_alloc | apply pw_below_drewN | apply below_drew1) | exact HB.out)) hb); have n1_ := Aside0.mk (hbox); have n2_ := Aside0.mk ((by rw [hg]; exact (below_size (by repeat (first | (with_reducible first | exact HB.out | apply below_alloc | apply pw_below_drewN | apply below_drew1) | exact HB.out))) : w.heap.size ≤ gb276)); have n3_ := Aside0.mk ((by rw [hg]; exact (below_size (by repeat (first | (with_reducible first | exact HB.out | apply below_alloc | apply pw_below_drewN | apply below_drew1) | exact HB.out))) : w.heap.size ≤ gb276)); clear HB; have HB := n0_; have BK276 := n1_; have GW276 := n2_; have GE276 := n3_; clear n0_ n1_ n2_ n3_; clear hb hbox hg; have hcz3_0 : w2.cell? ⟨gb276, 0, none⟩ = some (.int .i64 a0_0) := (blk_cell BK276.out 0).trans rfl; have hcz3_1 : w2.cell? ⟨gb276, 1, none⟩ = some (.int .i64 a0_1) := (blk_cell BK276.out 1).trans rfl; have hcz3_2 : w2.cell? ⟨gb276, 2, none⟩ = some (.slice A0_2 l0_2.length c0_2) := (blk_cell BK276.out 2).trans rfl; have hfz3_0 := blk_frozen BK276.out 0; have hfz3_1 := blk_frozen BK276.out 1; have hfz3_2 := blk_frozen BK276.out 2))
  go_loopg [3, 9] k (fun kq v3 v9 w' => ∃ (x3_1 : Int) (x9_1 : Int), v3 = .int .i64 x3_1 ∧ v9 = .int .i64 x9_1 ∧ Aside0 (impl_GateSize.l0 kq x3_1 l0_2 (l0_2.length : Int) x9_1 = some r) ∧ Aside0 (kq ≤ k) ∧ Aside0 (w'.heap[gb276]? = some (.cells #[.int .i64 a0_0, .int .i64 a0_1, (.slice A0_2 l0_2.length c0_2)] 46 (0, 0))) ∧ Aside0 (Below w.heap.size w w'))
  case atStart => exact ⟨(1), (0), (by first | rfl | (simp; done) | (simp [*]; done)), (by first | rfl | (simp; done) | (simp [*]; done)), H', ⟨Nat.le_refl _⟩, ⟨by (with_reducible repeat (first | refine blk_drewN ?_ _ | refine blk_drew ?_ | refine blk_alloc ?_ _)); exact BK276.out⟩, ⟨by repeat (first | (with_reducible first | exact HB.out | apply below_alloc | apply pw_below_drewN | apply below_drew1 | refine below_set ?_ GE276.out) | exact HB.out)⟩⟩
  case round =>
    clear H'
    try clear p2
    try clear hcz3_0
    try clear hcz3_1
    try clear hcz3_2
    try clear hfz3_0
    try clear hfz3_1
    try clear hfz3_2
    obtain ⟨x3_1, x9_1, rfl, rfl, HA, HK1, BK276, HB⟩ := hrel
    cases gk with
    | zero => exact absurd HA.out (by simp [impl_GateSize.l0])
    | succ k1 =>
      have H := HA.out
      clear HA
      simp only [impl_GateSize.l0] at H
      by_cases c4 : x9_1 < (l0_2.length : Int)
      · rw [if_pos c4] at H
        have c4b0 : decide (x9_1 < (l0_2.length : Int)) = true := decide_eq_true c4
        clear c4
        by_cases c5 : 0 ≤ x9_1
        · rw [if_pos c5] at H
          have c5b0 : decide (0 ≤ x9_1) = true := decide_eq_true c5
          clear c5
          by_cases c6 : x9_1 < (l0_2.length : Int)
          · rw [if_pos c6] at H
            have c6b0 : decide (x9_1 < (l0_2.length : Int)) = true := decide_eq_true c6
            clear c6
            replace H := Option.bind_eq_some_iff.mp H
            obtain ⟨t279, A70, H⟩ := H
            replace H : (impl_GateSize.l0 k1 (wrap64 (x3_1 + t279)) l0_2 (l0_2.length : Int) (wrap64 (x9_1 + 1))) = some r := H
            have A7 := Aside0.mk A70
            clear A70
            have H' := Aside0.mk H
            clear H
            have p277 : 0 ≤ (x9_1 : Int) := of_decide_eq_true (by first | (with_reducible assumption) | assumption)
            have q277 : x9_1 < (l0_2.length : Int) := of_decide_eq_true (by first | (with_reducible assumption) | assumption)
            obtain ⟨ad277, A277_2, c277_2, e277, hx277_0, hx277_1, hx277_2, hl277_2, hi277_2⟩ := at_T46 HR0_2.out x9_1 p277 q277
            cases e277
            replace hx277_0 := (HB.out.cell (World.block_lt_of_cell? w _ hx277_0)).trans hx277_0
            replace hx277_1 := (HB.out.cell (World.block_lt_of_cell? w _ hx277_1)).trans hx277_1
            replace hx277_2 := (HB.out.cell (World.block_lt_of_cell? w _ hx277_2)).trans hx277_2
            have HR277_2 := Aside0.mk hi277_2
            have HC277_2 := Aside0.mk hl277_2
            clear hi277_2 hl277_2
            replace p277 := eq_true p277
            replace q277 := eq_true q277
            go_wp2_with (first | ((with_reducible refine gate_dst (N := 5) rfl ?_); refine box_event ?hg (N := 5) ?hd (cs := #[.int .i64 0, .int .i64 0, .slice none 0 0]) (t := 46) ?hr ?_; (case hd => rfl); (case hg => rfl); (case hr => first | (go_simp; done) | (go_simp; rfl)); intro gb278 hg w8 hbox hb; have n0_ := Aside0.mk (blk_below (g := gb276) (o := .cells #[.int .i64 a0_0, .int .i64 a0_1, .slice (some ad277) l0_2.length c0_2] 46 (0, 0)) (by (with_reducible repeat (first | refine blk_drewN ?_ _ | refine blk_drew ?_ | refine blk_alloc ?_ _)); exact BK276.out) hb); have n1_ := Aside0.mk (below_step (by repeat (first | (with_reducible first | exact HB.out | apply below_alloc | apply pw_below_drewN | apply below_drew1 | refine below_set ?_ GE276.out) | exact HB.out)) hb); have n2_ := Aside0.mk (hbox); have n3_ := Aside0.mk ((by rw [hg]; exact (below_size (by repeat (first | (with_reducible first | exact HB.out | apply below_alloc | apply pw_below_drewN | apply below_drew1 | refine below_set ?_ GE276.out) | exact HB.out))) : w.heap.size ≤ gb278)); have n4_ := Aside0.mk ((by rw [hg]; exact (below_size (by repeat (first | (with_reducible first | exact HB.out | apply below_alloc | apply pw_below_drewN | apply below_drew1 | refine below_set ?_ GE276.out) | exact HB.out))) : w.heap.size ≤ gb278)); have n5_ := Aside0.mk ((by rw [hg]; exact Nat.ne_of_lt (blk_lt (g := gb276) (o := .cells #[.int .i64 a0_0, .int .i64 a0_1, .slice (some ad277) l0_2.length c0_2] 46 (0, 0)) (by (with_reducible repeat (first | refine blk_drewN ?_ _ | refine blk_drew ?_ | refine blk_alloc ?_ _)); exact BK276.out)) : gb276 ≠ gb278)); have n6_ := Aside0.mk ((by rw [hg]; exact Nat.ne_of_gt (blk_lt (g := gb276) (o := .cells #[.int .i64 a0_0, .int .i64 a0_1, .slice (some ad277) l0_2.length c0_2] 46 (0, 0)) (by (with_reducible repeat (first | refine blk_drewN ?_ _ | refine blk_drew ?_ | refine blk_alloc ?_ _)); exact BK276.out)) : gb278 ≠ gb276)); clear BK276; clear HB; have BK276 := n0_; have HB := n1_; have BK278 := n2_; have GW278 := n3_; have GE278 := n4_; have NB276_278 := n5_; have NB278_276 := n6_; clear n0_ n1_ n2_ n3_ n4_ n5_ n6_; clear hb hbox hg; have hnb9 := NB278_276.out; have hnc9 := NB276_278.out; have hcz10_0 : w8.cell? ⟨gb278, 0, none⟩ = some (.int .i64 0) := (blk_cell BK278.out 0).trans rfl; have hcz10_1 : w8.cell? ⟨gb278, 1, none⟩ = some (.int .i64 0) := (blk_cell BK278.out 1).trans rfl; have hcz10_2 : w8.cell? ⟨gb278, 2, none⟩ = some (.slice none 0 0) := (blk_cell BK278.out 2).trans rfl; have hfz10_0 := blk_frozen BK278.out 0; have hfz10_1 := blk_frozen BK278.out 1; have hfz10_2 := blk_frozen BK278.out 2) | ((with_reducible refine gate_callee (f := 93) rfl ?_); refine goesL_ (some 15) rfl rfl Tryd.func93 (by kernel_rfl) rfl #[.agg #[.int .i64 ((rd_T46 l0_2 x9_1).f0), .int .i64 ((rd_T46 l0_2 x9_1).f1), .slice A277_2 ((rd_T46 l0_2 x9_1).f2).length c277_2]] rfl (by (try simp only [List.map_toArray, List.map_cons, List.map_nil]); first | done | rfl | (simp only [List.length_drop, List.length_take]; rfl)) ?_; (with_reducible refine (ih k1 (by have := HK1.out; omega) ((rd_T46 l0_2 x9_1).f0) ((rd_T46 l0_2 x9_1).f1) _ _ ((rd_T46 l0_2 x9_1).f2) t279 _ ?side1 ?side2 A7.out).mono ?_); (case side1 => exact Kd.C_below HR277_2.out (by repeat (first | (with_reducible first | exact HB.out | apply below_alloc | apply pw_below_drewN | apply below_drew1 | refine below_set ?_ GE276.out | refine below_set ?_ GE278.out) | exact HB.out))); (case side2 => exact HC277_2.out); rintro e w11 ⟨rfl, hb⟩; refine ⟨_, rfl, ?_⟩; have n0_ := Aside0.mk (blk_below (g := gb276) (o := .cells #[.int .i64 a0_0, .int .i64 a0_1, .slice (some ad277) l0_2.length c0_2] 46 (0, 0)) (by (with_reducible repeat (first | refine blk_drewN ?_ _ | refine blk_drew ?_ | refine blk_alloc ?_ _)); refine blk_far ?_ NB276_278.out _; (with_reducible repeat (first | refine blk_drewN ?_ _ | refine blk_drew ?_ | refine blk_alloc ?_ _)); refine blk_far ?_ NB276_278.out _; (with_reducible repeat (first | refine blk_drewN ?_ _ | refine blk_drew ?_ | refine blk_alloc ?_ _)); refine blk_far ?_ NB276_278.out _; (with_reducible repeat (first | refine blk_drewN ?_ _ | refine blk_drew ?_ | refine blk_alloc ?_ _)); exact BK276.out) hb); have n1_ := Aside0.mk (blk_below (g := gb278) (o := .cells #[.int .i64 ((rd_T46 l0_2 x9_1).f0), .int .i64 ((rd_T46 l0_2 x9_1).f1), .slice A277_2 ((rd_T46 l0_2 x9_1).f2).length c277_2] 46 (0, 0)) (by (with_reducible repeat (first | refine blk_drewN ?_ _ | refine blk_drew ?_ | refine blk_alloc ?_ _)); refine blk_put (cs := #[.int .i64 ((rd_T46 l0_2 x9_1).f0), .int .i64 ((rd_T46 l0_2 x9_1).f1), .slice none 0 0]) ?_ 2 _ rfl; (with_reducible repeat (first | refine blk_drewN ?_ _ | refine blk_drew ?_ | refine blk_alloc ?_ _)); refine blk_put (cs := #[.int .i64 ((rd_T46 l0_2 x9_1).f0), .int .i64 0, .slice none 0 0]) ?_ 1 _ rfl; (with_reducible repeat (first | refine blk_drewN ?_ _ | refine blk_drew ?_ | refine blk_alloc ?_ _)); refine blk_put (cs := #[.int .i64 0, .int .i64 0, .slice none 0 0]) ?_ 0 _ rfl; (with_reducible repeat (first | refine blk_drewN ?_ _ | refine blk_drew ?_ | refine blk_alloc ?_ _)); exact BK278.out) hb); have n2_ := Aside0.mk (below_step (by repeat (first | (with_reducible first | exact HB.out | apply below_alloc | apply pw_below_drewN | apply below_drew1 | refine below_set ?_ GE276.out | refine below_set ?_ GE278.out) | exact HB.out)) hb); clear BK276; clear BK278; clear HB; have BK276 := n0_; have BK278 := n1_; have HB := n2_; clear n0_ n1_ n2_; (try clear hb); (try clear hb2); (try clear hk); (try clear hi)))
            go_roundg k1
            case measure => have := HK1.out; omega
            case rel => exact ⟨(wrap64 (x3_1 + t279)), (wrap64 (x9_1 + 1)), (by first | rfl | (simp; done) | (simp [*]; done)), (by first | rfl | (simp; done) | (simp [*]; done)), H', ⟨by have := HK1.out; omega⟩, ⟨by (with_reducible repeat (first | refine blk_drewN ?_ _ | refine blk_drew ?_ | refine blk_alloc ?_ _)); exact BK276.out⟩, ⟨by repeat (first | (with_reducible first | exact HB.out | apply below_alloc | apply pw_below_drewN | apply below_drew1 | refine below_set ?_ GE276.out | refine below_set ?_ GE278.out) | exact HB.out)⟩⟩
          · rw [if_neg c6] at H
            exact absurd H (by simp)
        · rw [if_neg c5] at H
          exact absurd H (by simp)
      · rw [if_neg c4] at H
        have c4b0 : decide (x9_1 < (l0_2.length : Int)) = false := decide_eq_false c4
        clear c4
        obtain rfl := Option.some.inj H
        go_wp2
        go_ret
        exact ⟨by first | rfl | (simp [errW_none, errW_some] <;> rfl) | (simp [*, errW_none, errW_some] <;> rfl), by repeat (first | (with_reducible first | exact HB.out | apply below_alloc | apply pw_below_drewN | apply below_drew1 | refine below_set ?_ GE276.out) | exact HB.out)⟩

end Go.Proofs.YtijmdlhcidjpmaaDoor.P

namespace Go.Proofs.YtijmdlhcidjpmaaDoor.P
open Go.RowKit Go.Proofs.YtijmdlhcidjpmaaDoorW.PrintWords Go.Proofs.YtijmdlhcidjpmaaDoorW.PrintLast Go.Proofs.YtijmdlhcidjpmaaDoorW.PrintMore
attribute [local go_sem] max2_int min2_int max_two min_two max_three min_three max_four min_four
set_option linter.unusedVariables false
set_option linter.unusedSimpArgs false

/-! ### impl_ValidGate: function 52 (by hand) -/
def impl_ValidGate.f (k : Nat) (h : Int) (a : Int) (b : Int) (l : List S46) : Option Bool := (impl_within.f h 1 7).bind fun t => if t = true then ((impl_Gate_isFormed.f k a b l h 12).bind fun u => if u = true then ((impl_GateSize.f k a b l).bind fun v => some (decide (v ≤ 60))) else some false) else some false
set_option maxHeartbeats 8000000 in
set_option maxRecDepth 100000 in
theorem impl_ValidGate.calls (k : Nat) (a0 : Int) (a1_0 : Int) (a1_1 : Int) (A1_2 : Option Addr) (c1_2 : Nat) (l1_2 : List S46) (r : Bool) (w : World) (hr1_2 : Kd.C k46 w A1_2 l1_2.length l1_2) (hc1_2 : l1_2.length ≤ c1_2) (h : impl_ValidGate.f k a0 a1_0 a1_1 l1_2 = some r) :
    Calls Tryd.prog 52 #[.int .i64 a0, .agg #[.int .i64 a1_0, .int .i64 a1_1, .slice A1_2 l1_2.length c1_2]] w fun e w' => e = .returned (.bool r) ∧ Below w.heap.size w w' := by
  have HR := Aside0.mk hr1_2
  have HC := Aside0.mk hc1_2
  clear hr1_2 hc1_2
  have hum := Tryd.underlying46
  unfold impl_ValidGate.f at h
  replace h := Option.bind_eq_some_iff.mp h
  obtain ⟨t, At, h⟩ := h
  have A1 := Aside0.mk At
  clear At
  cases t with
  | false =>
    rw [if_neg (by decide)] at h
    obtain rfl := Option.some.inj h
    clear h
    go_enter Tryd.func52, Tryd.ntmps52
    go_wp2_with (first | (go_at_call 57; (with_reducible refine (impl_within.calls a0 1 7 false _ A1.out).mono ?_); rintro e w' ⟨rfl, ⟨nd, rfl⟩⟩))
    go_ret
    exact ⟨rfl, (by repeat (first | exact Below.refl _ _ | apply below_alloc | apply pw_below_drewN | apply below_drew1))⟩
  | true =>
    rw [if_pos rfl] at h
    replace h := Option.bind_eq_some_iff.mp h
    obtain ⟨u, Au, h⟩ := h
    have A2 := Aside0.mk Au
    clear Au
    cases u with
    | false =>
      rw [if_neg (by decide)] at h
      obtain rfl := Option.some.inj h
      clear h
      go_enter Tryd.func52, Tryd.ntmps52
      go_wp2_with (first | (go_at_call 57; (with_reducible refine (impl_within.calls a0 1 7 true _ A1.out).mono ?_); rintro e w' ⟨rfl, ⟨nd, rfl⟩⟩) | (go_at_call 92; (with_reducible refine (impl_Gate_isFormed.calls k a1_0 a1_1 _ _ l1_2 a0 12 false _ ?side1 ?side2 A2.out).mono ?_); (case side1 => exact (by repeat (first | exact HR.out | (with_reducible refine Kd.C_alloc ?_ _) | (with_reducible refine Kd.C_drewN ?_ _) | (with_reducible refine Kd.C_drew ?_)))); (case side2 => exact HC.out); rintro e w1 ⟨rfl, hb⟩; have n1_ := Aside0.mk (blk_below (g := w.heap.size) (o := .cells #[.int .i64 a1_0, .int .i64 a1_1, .slice A1_2 l1_2.length c1_2] 46 (0, 0)) (by repeat (first | exact blk_new_at (by simp) | (with_reducible refine blk_drewN ?_ _) | (with_reducible refine blk_drew ?_) | (with_reducible refine blk_alloc ?_ _))) hb); have n9_ : Aside0 (Below w.heap.size w w1) := Aside0.mk (below_step (by repeat (first | exact Below.refl _ _ | apply below_alloc | apply pw_below_drewN | apply below_drew1)) hb); clear hb; have hx0 : w1.cell? ⟨w.heap.size, 0, none⟩ = some (.int .i64 a1_0) := (blk_cell n1_.out 0).trans rfl; have hx1 : w1.cell? ⟨w.heap.size, 1, none⟩ = some (.int .i64 a1_1) := (blk_cell n1_.out 1).trans rfl; have hx2 : w1.cell? ⟨w.heap.size, 2, none⟩ = some (.slice A1_2 l1_2.length c1_2) := (blk_cell n1_.out 2).trans rfl))
      go_ret
      exact ⟨(by first | rfl | (simp; done) | (simp [*]; done)), (by repeat (first | exact n9_.out | apply below_alloc | apply pw_below_drewN | apply below_drew1))⟩
    | true =>
      rw [if_pos rfl] at h
      replace h := Option.bind_eq_some_iff.mp h
      obtain ⟨v, Av, h⟩ := h
      have A3 := Aside0.mk Av
      clear Av
      obtain rfl := Option.some.inj h
      clear h
      go_enter Tryd.func52, Tryd.ntmps52
      go_wp2_with (first | (go_at_call 57; (with_reducible refine (impl_within.calls a0 1 7 true _ A1.out).mono ?_); rintro e w' ⟨rfl, ⟨nd, rfl⟩⟩) | (go_at_call 92; (with_reducible refine (impl_Gate_isFormed.calls k a1_0 a1_1 _ _ l1_2 a0 12 true _ ?side1 ?side2 A2.out).mono ?_); (case side1 => exact (by repeat (first | exact HR.out | (with_reducible refine Kd.C_alloc ?_ _) | (with_reducible refine Kd.C_drewN ?_ _) | (with_reducible refine Kd.C_drew ?_)))); (case side2 => exact HC.out); rintro e w1 ⟨rfl, hb⟩; have n1_ := Aside0.mk (blk_below (g := w.heap.size) (o := .cells #[.int .i64 a1_0, .int .i64 a1_1, .slice A1_2 l1_2.length c1_2] 46 (0, 0)) (by repeat (first | exact blk_new_at (by simp) | (with_reducible refine blk_drewN ?_ _) | (with_reducible refine blk_drew ?_) | (with_reducible refine blk_alloc ?_ _))) hb); have n9_ : Aside0 (Below w.heap.size w w1) := Aside0.mk (below_step (by repeat (first | exact Below.refl _ _ | apply below_alloc | apply pw_below_drewN | apply below_drew1)) hb); clear hb; have hx0 : w1.cell? ⟨w.heap.size, 0, none⟩ = some (.int .i64 a1_0) := (blk_cell n1_.out 0).trans rfl; have hx1 : w1.cell? ⟨w.heap.size, 1, none⟩ = some (.int .i64 a1_1) := (blk_cell n1_.out 1).trans rfl; have hx2 : w1.cell? ⟨w.heap.size, 2, none⟩ = some (.slice A1_2 l1_2.length c1_2) := (blk_cell n1_.out 2).trans rfl) | (go_at_call 93; (with_reducible refine (impl_GateSize.calls k a1_0 a1_1 _ _ l1_2 v _ ?side1 ?side2 A3.out).mono ?_); (case side1 => exact Kd.C_below HR.out (by repeat (first | exact n9_.out | apply below_alloc | apply pw_below_drewN | apply below_drew1))); (case side2 => exact HC.out); rintro e w2 ⟨rfl, hb⟩))
      go_ret
      exact ⟨rfl, below_step (by repeat (first | exact n9_.out | apply below_alloc | apply pw_below_drewN | apply below_drew1)) hb⟩

end Go.Proofs.YtijmdlhcidjpmaaDoor.P

namespace Go.Proofs.YtijmdlhcidjpmaaDoor.P
open Go.RowKit Go.Proofs.YtijmdlhcidjpmaaDoorW.PrintWords Go.Proofs.YtijmdlhcidjpmaaDoorW.PrintLast Go.Proofs.YtijmdlhcidjpmaaDoorW.PrintMore
attribute [local go_sem] max2_int min2_int max_two min_two max_three min_three max_four min_four
set_option linter.unusedVariables false
set_option linter.unusedSimpArgs false

/-! ### impl_decimal: function 46 (by hand) -/
open Go.Shelf in
def fmtRen : Go.Shelf.Ren := ⟨fun | 173 => 88 | 246 => 111 | 283 => 130 | 284 => 131 | 285 => 132 | 286 => 133 | 129 => 147 | 317 => 146 | 318 => 148 | 319 => 149 | 320 => 150 | 337 => 159 | 338 => 160 | n => n, fun | 2 => 2 | 3 => 3 | 9 => 9 | 4 => 4 | 171 => 159 | 0 => 0 | 53 => 151 | 37 => 108 | 5 => 5 | 173 => 162 | 212 => 177 | 51 => 178 | 20 => 20 | 213 => 179 | 46 => 116 | 232 => 195 | 233 => 196 | n => n, fun | 17 => 2 | 18 => 6 | 19 => 7 | n => n⟩
open Go.Shelf in
theorem fmtLays : Go.Proofs.Lays.n173 Tryd.prog fmtRen := {
  mixed := by kernel_rfl
  f129 := Tryd.func147.trans (congrArg some (by kernel_rfl))
  f173 := Tryd.func88.trans (congrArg some (by kernel_rfl))
  f246 := Tryd.func111.trans (congrArg some (by kernel_rfl))
  f283 := Tryd.func130.trans (congrArg some (by kernel_rfl))
  f284 := Tryd.func131.trans (congrArg some (by kernel_rfl))
  f285 := Tryd.func132.trans (congrArg some (by kernel_rfl))
  f286 := Tryd.func133.trans (congrArg some (by kernel_rfl))
  f317 := Tryd.func146.trans (congrArg some (by kernel_rfl))
  f318 := Tryd.func148.trans (congrArg some (by kernel_rfl))
  f319 := Tryd.func149.trans (congrArg some (by kernel_rfl))
  f320 := Tryd.func150.trans (congrArg some (by kernel_rfl))
  f337 := Tryd.func159.trans (congrArg some (by kernel_rfl))
  f338 := Tryd.func160.trans (congrArg some (by kernel_rfl))
  t0 := Tryd.underlying0
  a0 := Tryd.isAgg0
  z0 := Tryd.sizeOf0
  v0 := Tryd.zeroValue0
  t2 := Tryd.underlying2
  a2 := Tryd.isAgg2
  z2 := Tryd.sizeOf2
  v2 := Tryd.zeroValue2
  t3 := Tryd.underlying3
  a3 := Tryd.isAgg3
  z3 := Tryd.sizeOf3
  v3 := Tryd.zeroValue3
  t4 := Tryd.underlying4
  a4 := Tryd.isAgg4
  z4 := Tryd.sizeOf4
  v4 := Tryd.zeroValue4
  t5 := Tryd.underlying5
  a5 := Tryd.isAgg5
  z5 := Tryd.sizeOf5
  v5 := Tryd.zeroValue5
  t9 := Tryd.underlying9
  a9 := Tryd.isAgg9
  z9 := Tryd.sizeOf9
  v9 := Tryd.zeroValue9
  t20 := Tryd.underlying20
  a20 := Tryd.isAgg20
  z20 := Tryd.sizeOf20
  v20 := Tryd.zeroValue20
  t37 := Tryd.underlying108
  a37 := Tryd.isAgg108
  z37 := Tryd.sizeOf108
  v37 := Tryd.zeroValue108
  t46 := Tryd.underlying116
  a46 := Tryd.isAgg116
  z46 := Tryd.sizeOf116
  v46 := Tryd.zeroValue116
  t51 := Tryd.underlying178
  a51 := Tryd.isAgg178
  z51 := Tryd.sizeOf178
  v51 := Tryd.zeroValue178
  t53 := Tryd.underlying151
  a53 := Tryd.isAgg151
  z53 := Tryd.sizeOf151
  v53 := Tryd.zeroValue151
  t171 := Tryd.underlying159
  a171 := Tryd.isAgg159
  z171 := Tryd.sizeOf159
  v171 := Tryd.zeroValue159
  t173 := Tryd.underlying162
  a173 := Tryd.isAgg162
  z173 := Tryd.sizeOf162
  v173 := Tryd.zeroValue162
  t212 := Tryd.underlying177
  a212 := Tryd.isAgg177
  z212 := Tryd.sizeOf177
  v212 := Tryd.zeroValue177
  t213 := Tryd.underlying179
  a213 := Tryd.isAgg179
  z213 := Tryd.sizeOf179
  t232 := Tryd.underlying195
  a232 := Tryd.isAgg195
  z232 := Tryd.sizeOf195
  v232 := Tryd.zeroValue195
  t233 := Tryd.underlying196
  a233 := Tryd.isAgg196
  z233 := Tryd.sizeOf196
  v233 := Tryd.zeroValue196
  g17 := by kernel_rfl
  g18 := by kernel_rfl
  g19 := by kernel_rfl }
open Go.RowKit Go.Sort Go.Lib in
theorem fmtSmall (i : Nat) (hi : i < 100) (w : World) :
    Calls Tryd.prog 88 #[.int .i64 i, .int .i64 10] w fun e w' => e = .returned (.string ⟨(Lib.decDigits i).toArray⟩) ∧ w' = w := Any.strconv_FormatInt_10_small fmtLays i hi w
def impl_decimal.f (a0 : Int) : Option ByteArray := if 0 ≤ a0 ∧ a0 < 100 then some ⟨(Go.Lib.decDigits a0.toNat).toArray⟩ else none
set_option maxHeartbeats 8000000 in
set_option maxRecDepth 100000 in
theorem impl_decimal.calls (a0 : Int) (r : ByteArray) (w : World) (h : impl_decimal.f a0 = some r) :
    Calls Tryd.prog 46 #[.int .i64 a0] w fun e w' => e = .returned (.string r) ∧ Drawn0 w w' := by
  unfold impl_decimal.f at h
  by_cases c : 0 ≤ a0 ∧ a0 < 100
  · rw [if_pos c] at h
    obtain rfl := Option.some.inj h
    have C0 := fun w => fmtSmall a0.toNat (by omega) w
    rw [show ((a0.toNat : Nat) : Int) = a0 by omega] at C0
    have C := Aside0.mk C0
    clear C0 h c
    go_enter Tryd.func46, Tryd.ntmps46
    go_wp2_with (first | (go_at_call 88; (with_reducible refine (C.out _).mono ?_); rintro e w' ⟨rfl, rfl⟩))
    go_ret
    exact ⟨rfl, by repeat (first | exact Drawn0.refl _ | apply Drawn0.step)⟩
  · rw [if_neg c] at h
    exact absurd h (by simp)

end Go.Proofs.YtijmdlhcidjpmaaDoor.P

namespace Go.Proofs.YtijmdlhcidjpmaaDoor.P
open Go.RowKit Go.Proofs.YtijmdlhcidjpmaaDoorW.PrintWords Go.Proofs.YtijmdlhcidjpmaaDoorW.PrintLast Go.Proofs.YtijmdlhcidjpmaaDoorW.PrintMore
attribute [local go_sem] max2_int min2_int max_two min_two max_three min_three max_four min_four
set_option linter.unusedVariables false
set_option linter.unusedSimpArgs false

/-! ### impl_groupText: function 47 -/
def impl_groupText.l0 : Nat → List Int → List Int → Int → Int → Option (ByteArray)
  | 0, _, _, _, _ => none
  | k + 1, x3, x10, x11, x12 => if x12 < x11 then (if 0 ≤ x12 then (if x12 < (x10.length : Int) then (if x3.length < 140737488355328 then (impl_groupText.l0 k (x3 ++ [(wrap64 (65 + (rd x10 x12))) % 256]) x10 x11 (wrap64 (x12 + 1))) else (none)) else (none)) else (none)) else (some (strOfNums x3))
def impl_groupText.f (k : Nat) (l0 : List Int) : Option (ByteArray) := if (l0.length : Int) = 0 then (some (⟨#[45]⟩ : ByteArray)) else (impl_groupText.l0 k (([] : List Int)) l0 (l0.length : Int) 0)
set_option maxHeartbeats 8000000 in
set_option maxRecDepth 100000 in
theorem impl_groupText.calls (k : Nat) (A0 : Option Addr) (c0 : Nat) (l0 : List Int) (r : ByteArray) (w : World) (hr0 : Kd.C (Kd.int .i64) w A0 l0.length l0) (hc0 : l0.length ≤ c0) (h : impl_groupText.f k l0 = some r) :
    Calls Tryd.prog 47 #[.slice A0 l0.length c0] w fun e w' => e = .returned (.string r) ∧ Below w.heap.size w w' := by
  have HR0 := Aside0.mk hr0
  have HC0 := Aside0.mk hc0
  clear hr0 hc0
  have HB := Aside0.mk (Below.refl w.heap.size w)
  have H : (if (l0.length : Int) = 0 then (some (⟨#[45]⟩ : ByteArray)) else (impl_groupText.l0 k (([] : List Int)) l0 (l0.length : Int) 0)) = some r := h
  clear h
  by_cases c2 : (l0.length : Int) = 0
  · rw [if_pos c2] at H
    have c2b0 : ((l0.length : Int) == 0) = true := beq_iff_eq.mpr c2
    have c2b1 : ((l0.length : Int) != 0) = false := bne_eq_false_iff_eq.mpr c2
    clear c2
    obtain rfl := Option.some.inj H
    go_enter Tryd.func47, Tryd.ntmps47
    go_wp2
    go_ret
    exact ⟨by first | rfl | (simp [errW_none, errW_some] <;> rfl) | (simp [*, errW_none, errW_some] <;> rfl), by repeat (first | (with_reducible first | exact HB.out | apply below_alloc | apply pw_below_drewN | apply below_drew1) | exact HB.out)⟩
  · rw [if_neg c2] at H
    have c2b0 : ((l0.length : Int) == 0) = false := beq_eq_false_iff_ne.mpr c2
    have c2b1 : ((l0.length : Int) != 0) = true := bne_iff_ne.mpr c2
    have c2b2 : ¬ (l0 = []) := fun h_ => c2 (by rw [h_]; rfl)
    obtain ⟨y252, hy252⟩ : ∃ y_ : List Int, y_ = (([] : List Int)) := ⟨_, rfl⟩
    replace H : (impl_groupText.l0 k y252 l0 (l0.length : Int) 0) = some r := by first | (rw [hy252]; with_reducible exact H) | (have H2_ := (Option.bind_some _ _).symm.trans H; rw [hy252]; with_reducible exact H2_) | (have H2_ := (Option.bind_some _ _).symm.trans H; with_reducible exact H2_) | with_reducible exact H | (rw [hy252]; exact H) | exact H
    have Ny252 := Aside0.mk hy252
    clear hy252
    have H' := Aside0.mk H
    clear H
    go_enter Tryd.func47, Tryd.ntmps47
    go_wp2_with (first | ((with_reducible refine gate_dst (N := 9) rfl ?_); refine Kd.R_lit (Kd.int .u8) _ 5 ?hg (N := 9) ?hd (xs := ([] : List Int)) (inner := []) (ok := fun _ => True) (okp := fun _ => True) ?hr ?hp (fun _ hk => hk) trivial (Below.refl _ _) (Nat.le_refl _) (by simp) ?_; (case hd => rfl); (case hg => rfl); (case hr => first | (go_simp; done) | (go_simp; rfl)); (case hp => exact (Reps.none _ _)); intro v253 w3 ho4 hb hg_ hnew_; clear hg_ hnew_; (first | rw [← Ny252.out] at ho4 | (simp only [Int.reduceToNat] at ho4; rw [← Ny252.out] at ho4)); have n0_ := Aside0.mk (Kd.R_lower ho4 (below_size (by repeat (first | (with_reducible first | exact HB.out | apply below_alloc | apply pw_below_drewN | apply below_drew1) | exact HB.out)))); have n1_ := Aside0.mk (below_step (by repeat (first | (with_reducible first | exact HB.out | apply below_alloc | apply pw_below_drewN | apply below_drew1) | exact HB.out)) hb); clear HB; have HO254 := n0_; have HB := n1_; clear n0_ n1_; clear hb ho4))
    go_loopg [3, 12] k (fun kq v3 v12 w' => ∃ (x3_1 : List Int) (x12_1 : Int), v12 = .int .i64 x12_1 ∧ Aside0 (impl_groupText.l0 kq x3_1 l0 (l0.length : Int) x12_1 = some r) ∧ Aside0 (kq ≤ k) ∧ Aside0 (Kd.R (Kd.int .u8) 5 w' w.heap.size (fun _ => True) v3 x3_1) ∧ Aside0 (Below w.heap.size w w'))
    case atStart => exact ⟨(y252), (0), (by first | rfl | (simp; done) | (simp [*]; done)), H', ⟨Nat.le_refl _⟩, ⟨by (with_reducible repeat (first | apply Kd.R_alloc | apply Kd.R_drewN | apply Kd.R_drew)); exact HO254.out⟩, ⟨by repeat (first | (with_reducible first | exact HB.out | apply below_alloc | apply pw_below_drewN | apply below_drew1) | exact HB.out)⟩⟩
    case round =>
      clear H'
      try clear c2
      try clear c2b0
      try clear c2b1
      try clear c2b2
      try clear p2
      try clear c4
      obtain ⟨x3_1, x12_1, rfl, HA, HK1, HO_3, HB⟩ := hrel
      cases gk with
      | zero => exact absurd HA.out (by simp [impl_groupText.l0])
      | succ k1 =>
        have H := HA.out
        clear HA
        simp only [impl_groupText.l0] at H
        by_cases c5 : x12_1 < (l0.length : Int)
        · rw [if_pos c5] at H
          have c5b0 : decide (x12_1 < (l0.length : Int)) = true := decide_eq_true c5
          clear c5
          by_cases c6 : 0 ≤ x12_1
          · rw [if_pos c6] at H
            have c6b0 : decide (0 ≤ x12_1) = true := decide_eq_true c6
            clear c6
            by_cases c7 : x12_1 < (l0.length : Int)
            · rw [if_pos c7] at H
              have c7b0 : decide (x12_1 < (l0.length : Int)) = true := decide_eq_true c7
              clear c7
              by_cases c8 : x3_1.length < 140737488355328
              · rw [if_pos c8] at H
                have LMc8 := Aside0.mk c8
                clear c8
                obtain ⟨y256, hy256⟩ : ∃ y_ : List Int, y_ = (x3_1 ++ [(wrap64 (65 + (rd l0 x12_1))) % 256]) := ⟨_, rfl⟩
                replace H : (impl_groupText.l0 k1 y256 l0 (l0.length : Int) (wrap64 (x12_1 + 1))) = some r := by first | (rw [hy256]; with_reducible exact H) | (have H2_ := (Option.bind_some _ _).symm.trans H; rw [hy256]; with_reducible exact H2_) | (have H2_ := (Option.bind_some _ _).symm.trans H; with_reducible exact H2_) | with_reducible exact H | (rw [hy256]; exact H) | exact H
                have Ny256 := Aside0.mk hy256
                clear hy256
                have H' := Aside0.mk H
                clear H
                have p255 : 0 ≤ (x12_1 : Int) := of_decide_eq_true (by first | (with_reducible assumption) | assumption)
                have q255 : x12_1 < (l0.length : Int) := of_decide_eq_true (by first | (with_reducible assumption) | assumption)
                obtain ⟨ad255, e255, hx255_0⟩ := Kd.at_int HR0.out x12_1 p255 q255
                cases e255
                replace hx255_0 := (HB.out.cell (World.block_lt_of_cell? w _ hx255_0)).trans hx255_0
                replace p255 := eq_true p255
                replace q255 := eq_true q255
                go_wp2_with (first | ((with_reducible refine gate_builtin (b := .append) (xs := #[.tmp 16, .tmp 20]) rfl ?_); at_builtin; refine Kd.R_append (Kd.int .u8) (w0 := w) w.heap.size rfl (.tmp 16) (.tmp 20) 108 5 (.int .u8 0) 1 rfl Tryd.underlying108 info5 rfl (by decide) (by omega) u3 x3_1 ((wrap64 (65 + (rd l0 x12_1))) % 256) [.int .u8 ((wrap64 (65 + (rd l0 x12_1))) % 256)] (fun _ => True) (fun _ => False) rfl rfl ?aP (fun _ hk => hk.elim) ?aF ?aO ?aB ?aS ?aL ?_; (case aP => exact rfl); (case aB => exact (by repeat (first | (with_reducible first | exact HB.out | apply below_alloc | apply pw_below_drewN | apply below_drew1) | exact HB.out))); (case aF => exact (fun _ _ => trivial)); (case aO => exact (by (with_reducible repeat (first | apply Kd.R_alloc | apply Kd.R_drewN | apply Kd.R_drew)); exact HO_3.out)); (case aS => exact (below_size (by repeat (first | (with_reducible first | exact HB.out | apply below_alloc | apply pw_below_drewN | apply below_drew1) | exact HB.out)))); (case aL => have := LMc8.out; omega); intro v257 w9 ho hb hg hat; rw [← Ny256.out] at ho; have n0_ := Aside0.mk (hb); have n1_ := Aside0.mk (ho); clear HB; clear HO_3; have HB := n0_; have HO258 := n1_; clear n0_ n1_; clear ho hb hg hat))
                go_roundg k1
                case measure => have := HK1.out; omega
                case rel => exact ⟨(y256), (wrap64 (x12_1 + 1)), (by first | rfl | (simp; done) | (simp [*]; done)), H', ⟨by have := HK1.out; omega⟩, ⟨by (with_reducible repeat (first | apply Kd.R_alloc | apply Kd.R_drewN | apply Kd.R_drew)); exact HO258.out⟩, ⟨by repeat (first | (with_reducible first | exact HB.out | apply below_alloc | apply pw_below_drewN | apply below_drew1) | exact HB.out)⟩⟩
              · rw [if_neg c8] at H
                exact absurd H (by simp)
            · rw [if_neg c7] at H
              exact absurd H (by simp)
          · rw [if_neg c6] at H
            exact absurd H (by simp)
        · rw [if_neg c5] at H
          have c5b0 : decide (x12_1 < (l0.length : Int)) = false := decide_eq_false c5
          clear c5
          obtain rfl := Option.some.inj H
          have hcv10 := own_string (P := Tryd.prog) Tryd.underlying108 Tryd.underlying5 Tryd.underlying9 (Kd.own_of_R HO_3.out)
          go_wp2
          go_ret
          exact ⟨by first | rfl | (simp [errW_none, errW_some] <;> rfl) | (simp [*, errW_none, errW_some] <;> rfl), by repeat (first | (with_reducible first | exact HB.out | apply below_alloc | apply pw_below_drewN | apply below_drew1) | exact HB.out)⟩

end Go.Proofs.YtijmdlhcidjpmaaDoor.P

namespace Go.Proofs.YtijmdlhcidjpmaaDoor.P
open Go.RowKit Go.Proofs.YtijmdlhcidjpmaaDoorW.PrintWords Go.Proofs.YtijmdlhcidjpmaaDoorW.PrintLast Go.Proofs.YtijmdlhcidjpmaaDoorW.PrintMore
attribute [local go_sem] max2_int min2_int max_two min_two max_three min_three max_four min_four
set_option linter.unusedVariables false
set_option linter.unusedSimpArgs false

open Go.Shelf in
/-- The library's numbers in this program, for strings.Join (95). -/
def joinRen : Go.Shelf.Ren := ⟨fun | 156 => 95 | 165 => 115 | 166 => 116 | 169 => 117 | 240 => 135 | 241 => 136 | 276 => 151 | 277 => 152 | n => n, fun | 31 => 90 | 9 => 9 | 3 => 3 | 4 => 4 | 0 => 0 | 20 => 20 | 72 => 143 | 76 => 145 | 70 => 141 | 37 => 108 | 75 => 102 | 127 => 165 | 164 => 182 | 5 => 5 | 80 => 80 | n => n, fun | n => n⟩
open Go.Shelf in
theorem joinLays : Go.Proofs.Lays.n156 Tryd.prog joinRen := {
  mixed := by kernel_rfl
  f156 := Tryd.func95.trans (congrArg some (by kernel_rfl))
  f165 := Tryd.func115.trans (congrArg some (by kernel_rfl))
  f166 := Tryd.func116.trans (congrArg some (by kernel_rfl))
  f169 := Tryd.func117.trans (congrArg some (by kernel_rfl))
  f240 := Tryd.func135.trans (congrArg some (by kernel_rfl))
  f241 := Tryd.func136.trans (congrArg some (by kernel_rfl))
  f276 := Tryd.func151.trans (congrArg some (by kernel_rfl))
  f277 := Tryd.func152.trans (congrArg some (by kernel_rfl))
  t0 := Tryd.underlying0
  a0 := Tryd.isAgg0
  z0 := Tryd.sizeOf0
  v0 := Tryd.zeroValue0
  t3 := Tryd.underlying3
  a3 := Tryd.isAgg3
  z3 := Tryd.sizeOf3
  v3 := Tryd.zeroValue3
  t4 := Tryd.underlying4
  a4 := Tryd.isAgg4
  z4 := Tryd.sizeOf4
  v4 := Tryd.zeroValue4
  t9 := Tryd.underlying9
  a9 := Tryd.isAgg9
  z9 := Tryd.sizeOf9
  v9 := Tryd.zeroValue9
  t20 := Tryd.underlying20
  a20 := Tryd.isAgg20
  z20 := Tryd.sizeOf20
  v20 := Tryd.zeroValue20
  t31 := Tryd.underlying90
  a31 := Tryd.isAgg90
  z31 := Tryd.sizeOf90
  v31 := Tryd.zeroValue90
  t37 := Tryd.underlying108
  a37 := Tryd.isAgg108
  z37 := Tryd.sizeOf108
  v37 := Tryd.zeroValue108
  t70 := Tryd.underlying141
  a70 := Tryd.isAgg141
  z70 := Tryd.sizeOf141
  v70 := Tryd.zeroValue141
  t72 := Tryd.underlying143
  a72 := Tryd.isAgg143
  z72 := Tryd.sizeOf143
  v72 := Tryd.zeroValue143
  t75 := Tryd.underlying102
  a75 := Tryd.isAgg102
  z75 := Tryd.sizeOf102
  v75 := Tryd.zeroValue102
  t76 := Tryd.underlying145
  a76 := Tryd.isAgg145
  z76 := Tryd.sizeOf145
  v76 := Tryd.zeroValue145
  t127 := Tryd.underlying165
  a127 := Tryd.isAgg165
  z127 := Tryd.sizeOf165
  v127 := Tryd.zeroValue165
  t164 := Tryd.underlying182
  a164 := Tryd.isAgg182
  z164 := Tryd.sizeOf182
  v164 := Tryd.zeroValue182 }
theorem joinExtra : Go.Proofs.Builder.Extra Tryd.prog joinRen := {
  sizeBuilder := by kernel_rfl
  liesBuilder := by kernel_rfl
  t5 := Tryd.underlying5
  a5 := Tryd.isAgg5
  z5 := Tryd.sizeOf5
  v5 := Tryd.zeroValue5
  infoByte := by kernel_rfl
  cellsByte := by kernel_rfl
  sizeByte := by kernel_rfl
  neB5 := by decide }
def joinB (l : List ByteArray) : ByteArray := ⟨(Go.Lib.join (l.map (·.data.toList)) [44, 32]).toArray⟩
theorem join_calls {base : Nat} {ok : Nat → Prop} (A : Option Addr) (c : Nat) (l : List ByteArray) (w : World) (hR : Kd.R Kd.string 9 w base ok (.slice A l.length c) l) (hlen : (joinB l).size ≤ 140737488355328) (hN : l.length ≤ 140737488355328) :
    Calls Tryd.prog 95 #[.slice A l.length c, .string (⟨#[44, 32]⟩ : ByteArray)] w fun e w' => e = .returned (.string (joinB l)) ∧ Below w.heap.size w w' := by
  obtain ⟨_, hc, hC⟩ := Kd.R_reads' hR
  by_cases h0 : l = []
  · subst h0
    exact (Any.strings_Join_none joinLays joinExtra A c (⟨#[44, 32]⟩ : ByteArray) w).mono (fun e w' ⟨he, hw⟩ => ⟨he, hw ▸ Below.refl _ _⟩)
  · have hp : 0 < l.length := List.length_pos_iff.mpr h0
    obtain ⟨g, cap, e, _, hlt, _⟩ := Kd.R_form hR hp
    injection e with ea en ec
    subst ea
    refine Any.strings_Join joinLays joinExtra g 0 c l (⟨#[44, 32]⟩ : ByteArray) w (fun j x hj => ?_) hlt hN hc hlen
    have hjl : j < l.length := (List.getElem?_eq_some_iff.1 hj).1
    obtain ⟨ad, cs, e1, _, hK, hcell⟩ := Kd.C_get hC (⟨#[]⟩ : ByteArray) (j : Int) (by omega) (by omega)
    injection e1 with e1
    subst e1
    have hK2 : cs = [.string (l.getD (j : Int).toNat (⟨#[]⟩ : ByteArray))] := hK
    subst hK2
    have := hcell 0 _ rfl
    rw [show Kd.string.sz = 1 from rfl, Nat.mul_one, Nat.add_zero, Int.toNat_natCast, List.getD_eq_getElem?_getD, hj] at this
    rw [Nat.zero_add]
    by_cases hz : j = 0
    · subst hz; simpa [Addr.add] using this
    · simpa [Addr.add, hz] using this

end Go.Proofs.YtijmdlhcidjpmaaDoor.P

namespace Go.Proofs.YtijmdlhcidjpmaaDoor.P
open Go.RowKit Go.Proofs.YtijmdlhcidjpmaaDoorW.PrintWords Go.Proofs.YtijmdlhcidjpmaaDoorW.PrintLast Go.Proofs.YtijmdlhcidjpmaaDoorW.PrintMore
attribute [local go_sem] max2_int min2_int max_two min_two max_three min_three max_four min_four
set_option linter.unusedVariables false
set_option linter.unusedSimpArgs false

/-! ### impl_Gate_text: function 53 (by hand) -/
mutual
def textI.l0 : Nat → S46 → List ByteArray → Int → Option ByteArray
  | 0, _, _, _ => none
  | k + 1, x, out, i => if i < (x.f2.length : Int) then (if 0 ≤ i then ((textI.f k (rd_T46 x.f2 i)).bind fun t => if out.length < 1048576 then textI.l0 k x (out ++ [t]) (wrap64 (i + 1)) else none) else none) else ((impl_decimal.f x.f1).bind fun d => if d.size ≤ 1000000000 then (if (joinB out).size ≤ 1000000000 then (if out.length ≤ 1000000000 then some (((d ++ (⟨#[40]⟩ : ByteArray)) ++ joinB out) ++ (⟨#[41]⟩ : ByteArray)) else none) else none) else none)
def textI.f : Nat → S46 → Option ByteArray
  | 0, _ => none
  | k + 1, x => if (x.f2.length : Int) = 0 then impl_groupText.f k [x.f0] else textI.l0 k x [] 0
end
set_option maxHeartbeats 8000000 in
set_option maxRecDepth 100000 in
theorem textI.calls (k : Nat) : ∀ (x : S46) (A : Option Addr) (c : Nat) (r : ByteArray) (w : World) (hr : Kd.C k46 w A x.f2.length x.f2) (hc : x.f2.length ≤ c) (h : textI.f k x = some r),
    Calls Tryd.prog 53 #[.agg #[.int .i64 x.f0, .int .i64 x.f1, .slice A x.f2.length c]] w fun e w' => e = .returned (.string r) ∧ Below w.heap.size w w' := by
  induction k using Nat.strongRecOn with
  | _ k ih =>
  intro x A c r w hr hc h
  cases k with
  | zero => exact absurd h (by simp [textI.f])
  | succ k =>
  simp only [textI.f] at h
  have IH := Aside0.mk ih
  have HR := Aside0.mk hr
  have HC := Aside0.mk hc
  have HB := Aside0.mk (Below.refl w.heap.size w)
  have hu29 := Tryd.underlying46
  clear ih hr hc
  by_cases c0 : (x.f2.length : Int) = 0
  · rw [if_pos c0] at h
    have A1 := Aside0.mk h
    clear h
    have AL : Aside0 (impl_Gate_isLeaf.f x.f0 x.f1 x.f2 = some true) := ⟨by unfold impl_Gate_isLeaf.f; rw [c0]; rfl⟩
    clear c0
    go_enter Tryd.func53, Tryd.ntmps53
    go_wp2_with (first | ((with_reducible refine gate_dst (N := 1) rfl ?_); refine box_event ?hg (N := 1) ?hd (cs := #[.int .i64 x.f0, .int .i64 x.f1, .slice A x.f2.length c]) (t := 46) ?hr ?_; (case hd => rfl); (case hg => rfl); (case hr => first | (go_simp; done) | (go_simp; rfl)); intro g1 hg w1 hbox hb; have n0_ := Aside0.mk (below_step (by repeat (first | (with_reducible first | exact HB.out | apply below_alloc | apply pw_below_drewN | apply below_drew1) | exact HB.out)) hb); have GW_g1 := Aside0.mk ((by rw [hg]; exact below_size (by repeat (first | (with_reducible first | exact HB.out | apply below_alloc | apply pw_below_drewN | apply below_drew1) | exact HB.out))) : w.heap.size ≤ g1); clear HB ; have HB := n0_; clear n0_; have BK_g1 := Aside0.mk hbox; clear hbox hb hg; have hz_g10 : w1.cell? ⟨g1, 0, none⟩ = some (.int .i64 x.f0) := (blk_cell BK_g1.out 0).trans rfl; have hz_g1f0 := blk_frozen BK_g1.out 0; have hz_g11 : w1.cell? ⟨g1, 1, none⟩ = some (.int .i64 x.f1) := (blk_cell BK_g1.out 1).trans rfl; have hz_g1f1 := blk_frozen BK_g1.out 1; have hz_g12 : w1.cell? ⟨g1, 2, none⟩ = some (.slice A x.f2.length c) := (blk_cell BK_g1.out 2).trans rfl; have hz_g1f2 := blk_frozen BK_g1.out 2) | (go_at_call 94; (with_reducible refine (impl_Gate_isLeaf.calls x.f0 x.f1 _ _ x.f2 true _ ?side1 ?side2 AL.out).mono ?_); (case side1 => exact Kd.C_below HR.out (by repeat (first | (with_reducible first | exact HB.out | apply below_alloc | apply pw_below_drewN | apply below_drew1) | exact HB.out))); (case side2 => exact HC.out); rintro e w3 ⟨rfl, hb⟩; have n0_ := Aside0.mk (below_step (by repeat (first | (with_reducible first | exact HB.out | apply below_alloc | apply pw_below_drewN | apply below_drew1) | exact HB.out)) hb); have n1_ := Aside0.mk (blk_below (g := g1) (o := .cells #[.int .i64 x.f0, .int .i64 x.f1, .slice A x.f2.length c] 46 (0, 0)) (by (with_reducible repeat (first | refine blk_drewN ?_ _ | refine blk_drew ?_ | refine blk_alloc ?_ _)); exact BK_g1.out) hb); clear HB BK_g1 hz_g10 hz_g1f0 hz_g11 hz_g1f1 hz_g12 hz_g1f2 hb; have HB := n0_; have BK_g1 := n1_; clear n0_ n1_; have hz_g10 : w3.cell? ⟨g1, 0, none⟩ = some (.int .i64 x.f0) := (blk_cell BK_g1.out 0).trans rfl; have hz_g1f0 := blk_frozen BK_g1.out 0; have hz_g11 : w3.cell? ⟨g1, 1, none⟩ = some (.int .i64 x.f1) := (blk_cell BK_g1.out 1).trans rfl; have hz_g1f1 := blk_frozen BK_g1.out 1; have hz_g12 : w3.cell? ⟨g1, 2, none⟩ = some (.slice A x.f2.length c) := (blk_cell BK_g1.out 2).trans rfl; have hz_g1f2 := blk_frozen BK_g1.out 2) | ((with_reducible refine gate_dst (N := 10) rfl ?_); refine Kd.R_lit (Kd.int .i64) _ 2 ?hg (N := 10) ?hd (xs := [x.f0]) (inner := [.int .i64 x.f0]) (ok := fun _ => True) (okp := fun _ => True) ?hr ?hp (fun _ hk => hk) trivial (Below.refl _ _) (Nat.le_refl _) (by simp) ?_; (case hd => rfl); (case hg => rfl); (case hr => first | (go_simp; done) | (go_simp; rfl)); (case hp => exact (Reps.one (show Kd.M (Kd.int .i64) _ _ _ x.f0 [.int .i64 x.f0] from rfl) (Reps.none _ _))); intro v10 w4 ho hb hg_ hnew_; clear hg_ hnew_; have HO := Aside0.mk ho; obtain ⟨Av, cv, ev⟩ := Kd.R_slice HO.out; subst ev; clear ho; have n0_ := Aside0.mk (below_step (by repeat (first | (with_reducible first | exact HB.out | apply below_alloc | apply pw_below_drewN | apply below_drew1) | exact HB.out)) hb); have n1_ := Aside0.mk (blk_below (g := g1) (o := .cells #[.int .i64 x.f0, .int .i64 x.f1, .slice A x.f2.length c] 46 (0, 0)) (by (with_reducible repeat (first | refine blk_drewN ?_ _ | refine blk_drew ?_ | refine blk_alloc ?_ _)); exact BK_g1.out) hb); clear HB BK_g1 hz_g10 hz_g1f0 hz_g11 hz_g1f1 hz_g12 hz_g1f2 hb; have HB := n0_; have BK_g1 := n1_; clear n0_ n1_; have hz_g10 : w4.cell? ⟨g1, 0, none⟩ = some (.int .i64 x.f0) := (blk_cell BK_g1.out 0).trans rfl; have hz_g1f0 := blk_frozen BK_g1.out 0; have hz_g11 : w4.cell? ⟨g1, 1, none⟩ = some (.int .i64 x.f1) := (blk_cell BK_g1.out 1).trans rfl; have hz_g1f1 := blk_frozen BK_g1.out 1; have hz_g12 : w4.cell? ⟨g1, 2, none⟩ = some (.slice A x.f2.length c) := (blk_cell BK_g1.out 2).trans rfl; have hz_g1f2 := blk_frozen BK_g1.out 2) | (go_at_call 47; (refine (impl_groupText.calls k Av cv [x.f0] r _ ?side1 ?side2 A1.out).mono ?_); (case side1 => exact (Kd.R_reads' (by (with_reducible repeat (first | apply Kd.R_alloc | apply Kd.R_drewN | apply Kd.R_drew)); exact HO.out)).2.2); (case side2 => exact (Kd.R_reads' HO.out).2.1); rintro e w5 ⟨rfl, hb⟩; have n0_ := Aside0.mk (below_step (by repeat (first | (with_reducible first | exact HB.out | apply below_alloc | apply pw_below_drewN | apply below_drew1) | exact HB.out)) hb); clear HB hb; have HB := n0_; clear n0_))
    go_ret
    exact ⟨rfl, (by repeat (first | (with_reducible first | exact HB.out | apply below_alloc | apply pw_below_drewN | apply below_drew1) | exact HB.out))⟩
  · rw [if_neg c0] at h
    have A1 := Aside0.mk h
    clear h
    have AL : Aside0 (impl_Gate_isLeaf.f x.f0 x.f1 x.f2 = some false) := ⟨by unfold impl_Gate_isLeaf.f; rw [beq_eq_false_iff_ne.mpr c0]⟩
    clear c0
    go_enter Tryd.func53, Tryd.ntmps53
    go_wp2_with (first | ((with_reducible refine gate_dst (N := 1) rfl ?_); refine box_event ?hg (N := 1) ?hd (cs := #[.int .i64 x.f0, .int .i64 x.f1, .slice A x.f2.length c]) (t := 46) ?hr ?_; (case hd => rfl); (case hg => rfl); (case hr => first | (go_simp; done) | (go_simp; rfl)); intro g1 hg w1 hbox hb; have n0_ := Aside0.mk (below_step (by repeat (first | (with_reducible first | exact HB.out | apply below_alloc | apply pw_below_drewN | apply below_drew1) | exact HB.out)) hb); have GW_g1 := Aside0.mk ((by rw [hg]; exact below_size (by repeat (first | (with_reducible first | exact HB.out | apply below_alloc | apply pw_below_drewN | apply below_drew1) | exact HB.out))) : w.heap.size ≤ g1); clear HB ; have HB := n0_; clear n0_; have BK_g1 := Aside0.mk hbox; clear hbox hb hg; have hz_g10 : w1.cell? ⟨g1, 0, none⟩ = some (.int .i64 x.f0) := (blk_cell BK_g1.out 0).trans rfl; have hz_g1f0 := blk_frozen BK_g1.out 0; have hz_g11 : w1.cell? ⟨g1, 1, none⟩ = some (.int .i64 x.f1) := (blk_cell BK_g1.out 1).trans rfl; have hz_g1f1 := blk_frozen BK_g1.out 1; have hz_g12 : w1.cell? ⟨g1, 2, none⟩ = some (.slice A x.f2.length c) := (blk_cell BK_g1.out 2).trans rfl; have hz_g1f2 := blk_frozen BK_g1.out 2) | (go_at_call 94; (with_reducible refine (impl_Gate_isLeaf.calls x.f0 x.f1 _ _ x.f2 false _ ?side1 ?side2 AL.out).mono ?_); (case side1 => exact Kd.C_below HR.out (by repeat (first | (with_reducible first | exact HB.out | apply below_alloc | apply pw_below_drewN | apply below_drew1) | exact HB.out))); (case side2 => exact HC.out); rintro e w3 ⟨rfl, hb⟩; have n0_ := Aside0.mk (below_step (by repeat (first | (with_reducible first | exact HB.out | apply below_alloc | apply pw_below_drewN | apply below_drew1) | exact HB.out)) hb); have n1_ := Aside0.mk (blk_below (g := g1) (o := .cells #[.int .i64 x.f0, .int .i64 x.f1, .slice A x.f2.length c] 46 (0, 0)) (by (with_reducible repeat (first | refine blk_drewN ?_ _ | refine blk_drew ?_ | refine blk_alloc ?_ _)); exact BK_g1.out) hb); clear HB BK_g1 hz_g10 hz_g1f0 hz_g11 hz_g1f1 hz_g12 hz_g1f2 hb; have HB := n0_; have BK_g1 := n1_; clear n0_ n1_; have hz_g10 : w3.cell? ⟨g1, 0, none⟩ = some (.int .i64 x.f0) := (blk_cell BK_g1.out 0).trans rfl; have hz_g1f0 := blk_frozen BK_g1.out 0; have hz_g11 : w3.cell? ⟨g1, 1, none⟩ = some (.int .i64 x.f1) := (blk_cell BK_g1.out 1).trans rfl; have hz_g1f1 := blk_frozen BK_g1.out 1; have hz_g12 : w3.cell? ⟨g1, 2, none⟩ = some (.slice A x.f2.length c) := (blk_cell BK_g1.out 2).trans rfl; have hz_g1f2 := blk_frozen BK_g1.out 2) | ((with_reducible refine gate_dst (N := 12) rfl ?_); refine Kd.R_lit Kd.string _ 9 ?hg (N := 12) ?hd (xs := ([] : List ByteArray)) (inner := []) (ok := fun k_ => g1 < k_) (okp := fun k_ => g1 < k_) ?hr ?hp (fun _ hk => hk) (blk_lt (o := .cells #[.int .i64 x.f0, .int .i64 x.f1, .slice A x.f2.length c] 46 (0, 0)) (by (with_reducible repeat (first | refine blk_drewN ?_ _ | refine blk_drew ?_ | refine blk_alloc ?_ _)); exact BK_g1.out)) (Below.refl _ _) (Nat.le_refl _) (by simp) ?_; (case hd => rfl); (case hg => rfl); (case hr => first | (go_simp; done) | (go_simp; rfl)); (case hp => exact (Reps.none _ _)); intro v12 w4 ho3 hb hg_ hnew_; clear hg_ hnew_; have HO := Aside0.mk (Kd.R_lower (base' := w.heap.size) ho3 (below_size (by repeat (first | (with_reducible first | exact HB.out | apply below_alloc | apply pw_below_drewN | apply below_drew1) | exact HB.out)))); clear ho3; have n0_ := Aside0.mk (below_step (by repeat (first | (with_reducible first | exact HB.out | apply below_alloc | apply pw_below_drewN | apply below_drew1) | exact HB.out)) hb); have n1_ := Aside0.mk (blk_below (g := g1) (o := .cells #[.int .i64 x.f0, .int .i64 x.f1, .slice A x.f2.length c] 46 (0, 0)) (by (with_reducible repeat (first | refine blk_drewN ?_ _ | refine blk_drew ?_ | refine blk_alloc ?_ _)); exact BK_g1.out) hb); clear HB BK_g1 hz_g10 hz_g1f0 hz_g11 hz_g1f1 hz_g12 hz_g1f2 hb; have HB := n0_; have BK_g1 := n1_; clear n0_ n1_; have hz_g10 : w4.cell? ⟨g1, 0, none⟩ = some (.int .i64 x.f0) := (blk_cell BK_g1.out 0).trans rfl; have hz_g1f0 := blk_frozen BK_g1.out 0; have hz_g11 : w4.cell? ⟨g1, 1, none⟩ = some (.int .i64 x.f1) := (blk_cell BK_g1.out 1).trans rfl; have hz_g1f1 := blk_frozen BK_g1.out 1; have hz_g12 : w4.cell? ⟨g1, 2, none⟩ = some (.slice A x.f2.length c) := (blk_cell BK_g1.out 2).trans rfl; have hz_g1f2 := blk_frozen BK_g1.out 2))
    go_loopg [3, 16] k (fun kq v3 v16 w' => ∃ (i : Int) (out : List ByteArray), v16 = .int .i64 i ∧ Aside0 (textI.l0 kq x out i = some r) ∧ Aside0 (kq ≤ k) ∧ Aside0 (Kd.R Kd.string 9 w' w.heap.size (fun k_ => g1 < k_) v3 out) ∧ Aside0 (w'.heap[g1]? = some (.cells #[.int .i64 x.f0, .int .i64 x.f1, .slice A x.f2.length c] 46 (0, 0))) ∧ Aside0 (Below w.heap.size w w'))
    case atStart => exact ⟨0, [], rfl, A1, ⟨Nat.le_refl _⟩, ⟨(by (with_reducible repeat (first | apply Kd.R_alloc | apply Kd.R_drewN | apply Kd.R_drew)); exact HO.out)⟩, ⟨(by (with_reducible repeat (first | refine blk_drewN ?_ _ | refine blk_drew ?_ | refine blk_alloc ?_ _)); exact BK_g1.out)⟩, ⟨(by repeat (first | (with_reducible first | exact HB.out | apply below_alloc | apply pw_below_drewN | apply below_drew1) | exact HB.out))⟩⟩
    case round =>
      clear A1 HO BK_g1 HB hz_g10 hz_g1f0 hz_g11 hz_g1f1 hz_g12 hz_g1f2
      obtain ⟨i, out, rfl, HA, HK1, HO, BK_g1, HB⟩ := hrel
      have hz_g10 : wr.cell? ⟨g1, 0, none⟩ = some (.int .i64 x.f0) := (blk_cell BK_g1.out 0).trans rfl
      have hz_g1f0 := blk_frozen BK_g1.out 0
      have hz_g11 : wr.cell? ⟨g1, 1, none⟩ = some (.int .i64 x.f1) := (blk_cell BK_g1.out 1).trans rfl
      have hz_g1f1 := blk_frozen BK_g1.out 1
      have hz_g12 : wr.cell? ⟨g1, 2, none⟩ = some (.slice A x.f2.length c) := (blk_cell BK_g1.out 2).trans rfl
      have hz_g1f2 := blk_frozen BK_g1.out 2
      cases gk with
      | zero => exact absurd HA.out (by simp [textI.l0])
      | succ k1 =>
        have H' := HA.out
        clear HA
        simp only [textI.l0] at H'
        by_cases c6 : i < (x.f2.length : Int)
        · rw [if_pos c6] at H'
          by_cases c7 : 0 ≤ i
          case neg => rw [if_neg c7] at H'; exact absurd H' (by simp)
          rw [if_pos c7] at H'
          replace H' := Option.bind_eq_some_iff.mp H'
          obtain ⟨t, At, H'⟩ := H'
          have A7 := Aside0.mk At
          clear At
          by_cases c8 : out.length < 1048576
          case neg => rw [if_neg c8] at H'; exact absurd H' (by simp)
          rw [if_pos c8] at H'
          have LM := Aside0.mk c8
          have HF := Aside0.mk H'
          clear H' c8
          have c6b0 : decide (i < (x.f2.length : Int)) = true := decide_eq_true c6
          have c7b0 : decide (0 ≤ i) = true := decide_eq_true c7
          obtain ⟨ad, A2, c2, e3, hx0, hx1, hx2, hl2, hi2⟩ := at_T46 HR.out i c7 c6
          cases e3
          replace hx0 := (HB.out.cell (World.block_lt_of_cell? w _ hx0)).trans hx0
          replace hx1 := (HB.out.cell (World.block_lt_of_cell? w _ hx1)).trans hx1
          replace hx2 := (HB.out.cell (World.block_lt_of_cell? w _ hx2)).trans hx2
          have HI2 := Aside0.mk hi2
          have HL2 := Aside0.mk hl2
          clear hi2 hl2
          replace c7 := eq_true c7
          replace c6 := eq_true c6
          go_wp2_with (first | ((with_reducible refine gate_dst (N := 5) rfl ?_); refine box_event ?hg (N := 5) ?hd (cs := #[.int .i64 0, .int .i64 0, .slice none 0 0]) (t := 46) ?hr ?_; (case hd => rfl); (case hg => rfl); (case hr => first | (go_simp; done) | (go_simp; rfl)); intro gz hg w5 hbox hb; have GW_gz := Aside0.mk ((by rw [hg]; exact below_size (by repeat (first | (with_reducible first | exact HB.out | apply below_alloc | apply pw_below_drewN | apply below_drew1) | exact HB.out))) : w.heap.size ≤ gz); have HLz : Aside0 (g1 < gz) := ⟨by rw [hg]; exact blk_lt (o := .cells #[.int .i64 x.f0, .int .i64 x.f1, .slice (some ad) x.f2.length c] 46 (0, 0)) (by (with_reducible repeat (first | refine blk_drewN ?_ _ | refine blk_drew ?_ | refine blk_alloc ?_ _)); exact BK_g1.out)⟩; have n0_ := Aside0.mk (below_step (by repeat (first | (with_reducible first | exact HB.out | apply below_alloc | apply pw_below_drewN | apply below_drew1) | exact HB.out)) hb); have n1_ := Aside0.mk (blk_below (g := g1) (o := .cells #[.int .i64 x.f0, .int .i64 x.f1, .slice (some ad) x.f2.length c] 46 (0, 0)) (by (with_reducible repeat (first | refine blk_drewN ?_ _ | refine blk_drew ?_ | refine blk_alloc ?_ _)); exact BK_g1.out) hb); have n2_ := Aside0.mk (Kd.R_below (Kd.R_mono (Kd.R_bound (by (with_reducible repeat (first | apply Kd.R_alloc | apply Kd.R_drewN | apply Kd.R_drew)); exact HO.out)) (ok' := fun k_ => g1 < k_ ∧ k_ ≠ gz) (fun k_ hk_ => ⟨hk_.1, by have h_ := hk_.2.2.1; intro he_; rw [he_, hg] at h_; exact Nat.lt_irrefl _ h_⟩)) hb); clear HB BK_g1 HO hz_g10 hz_g1f0 hz_g11 hz_g1f1 hz_g12 hz_g1f2 hb; have HB := n0_; have BK_g1 := n1_; have HO := n2_; clear n0_ n1_ n2_; have BK_gz := Aside0.mk hbox; clear hbox hg; have hz_gz0 : w5.cell? ⟨gz, 0, none⟩ = some (.int .i64 0) := (blk_cell BK_gz.out 0).trans rfl; have hz_gzf0 := blk_frozen BK_gz.out 0; have hz_gz1 : w5.cell? ⟨gz, 1, none⟩ = some (.int .i64 0) := (blk_cell BK_gz.out 1).trans rfl; have hz_gzf1 := blk_frozen BK_gz.out 1; have hz_gz2 : w5.cell? ⟨gz, 2, none⟩ = some (.slice none 0 0) := (blk_cell BK_gz.out 2).trans rfl; have hz_gzf2 := blk_frozen BK_gz.out 2) | (go_at_call 53; (refine (IH.out k1 (by have := HK1.out; omega) (rd_T46 x.f2 i) A2 c2 t _ ?sR HL2.out A7.out).mono ?_); (case sR => exact Kd.C_below HI2.out (show Below w.heap.size w _ from (by repeat (first | (with_reducible first | exact HB.out | apply below_alloc | apply pw_below_drewN | apply below_drew1 | refine below_set ?_ GW_gz.out) | exact HB.out)))); rintro e w6 ⟨rfl, hb⟩; have n0_ := Aside0.mk (below_step (show Below w.heap.size w _ from (by repeat (first | (with_reducible first | exact HB.out | apply below_alloc | apply pw_below_drewN | apply below_drew1 | refine below_set ?_ GW_gz.out) | exact HB.out))) hb); have n1_ := Aside0.mk (blk_below (g := g1) (o := .cells #[.int .i64 x.f0, .int .i64 x.f1, .slice (some ad) x.f2.length c] 46 (0, 0)) (blk_far (p := ⟨gz, 2, none⟩) (blk_far (p := ⟨gz, 1, none⟩) (blk_far (p := ⟨gz, 0, none⟩) BK_g1.out (by have := HLz.out; show g1 ≠ gz; omega) _) (by have := HLz.out; show g1 ≠ gz; omega) _) (by have := HLz.out; show g1 ≠ gz; omega) _) hb); have n2_ := Aside0.mk (Kd.R_mono (Kd.R_below (Kd.R_far (p := ⟨gz, 2, none⟩) (Kd.R_far (p := ⟨gz, 1, none⟩) (Kd.R_far (p := ⟨gz, 0, none⟩) HO.out (fun _ hk_ => hk_.2) _) (fun _ hk_ => hk_.2) _) (fun _ hk_ => hk_.2) _) hb) (fun _ hk_ => hk_.1)); clear HB BK_g1 HO BK_gz hb; have HB := n0_; have BK_g1 := n1_; have HO := n2_; clear n0_ n1_ n2_) | ((with_reducible refine gate_builtin (b := .append) (xs := #[.tmp 20, .tmp 23]) rfl ?_); at_builtin; refine Kd.R_append Kd.string (w0 := w) w.heap.size rfl (.tmp 20) (.tmp 23) 90 9 (.string (⟨#[]⟩ : ByteArray)) 16 rfl Tryd.underlying90 info9 rfl (by decide) (by omega) u3 out t [.string t] (fun k_ => g1 < k_) (fun _ => False) rfl rfl ?aP (fun _ hk => hk.elim) ?aF ?aO ?aB ?aS ?aL ?_; (case aP => exact rfl); (case aF => exact fun k_ hk_ => Nat.lt_of_lt_of_le (blk_lt BK_g1.out) hk_); (case aO => exact HO.out); (case aB => exact HB.out); (case aS => exact below_size HB.out); (case aL => have := LM.out; omega); intro v7b w7 ho hb hg hat; have n1_ := Aside0.mk (blk_grown (g := g1) (o := .cells #[.int .i64 x.f0, .int .i64 x.f1, .slice (some ad) x.f2.length c] 46 (0, 0)) BK_g1.out hg (fun e_ => Nat.lt_irrefl _ (HO.out.1 g1 e_.symm))); have HO7 := Aside0.mk ho; have HB7 := Aside0.mk hb; have B17 := n1_; clear n1_ ho hb hg hat HO BK_g1 HB))
          go_roundg k1
          case measure => have := HK1.out; omega
          case rel => exact ⟨_, out ++ [t], rfl, HF, ⟨by have := HK1.out; omega⟩, HO7, B17, HB7⟩
        · rw [if_neg c6] at H'
          replace H' := Option.bind_eq_some_iff.mp H'
          obtain ⟨d, At, H'⟩ := H'
          have A8 := Aside0.mk At
          clear At
          by_cases c8 : d.size ≤ 1000000000
          case neg => rw [if_neg c8] at H'; exact absurd H' (by simp)
          rw [if_pos c8] at H'
          by_cases c9 : (joinB out).size ≤ 1000000000
          case neg => rw [if_neg c9] at H'; exact absurd H' (by simp)
          rw [if_pos c9] at H'
          by_cases c10 : out.length ≤ 1000000000
          case neg => rw [if_neg c10] at H'; exact absurd H' (by simp)
          rw [if_pos c10] at H'
          obtain rfl := Option.some.inj H'
          clear H'
          have c6b0 : decide (i < (x.f2.length : Int)) = false := decide_eq_false c6
          clear c6
          have HZ := Aside0.mk (And.intro c9 c10)
          have bs1 : ∀ u_ : UInt8, (⟨#[u_]⟩ : ByteArray).size = 1 := fun _ => rfl
          have bs2 : ∀ u_ v_ : UInt8, (⟨#[u_, v_]⟩ : ByteArray).size = 2 := fun _ _ => rfl
          have sz0a : (9223372036854775807 < d.size + 1) = False := eq_false (by omega)
          have sz0b : decide (d.size + 1 ≤ 9223372036854775807) = true := decide_eq_true (by omega)
          have sz1a : (9223372036854775807 < d.size + 1 + (joinB out).size) = False := eq_false (by omega)
          have sz1b : decide (d.size + 1 + (joinB out).size ≤ 9223372036854775807) = true := decide_eq_true (by omega)
          have sz2a : (9223372036854775807 < (d ++ (⟨#[40]⟩ : ByteArray)).size + (joinB out).size) = False := eq_false (by simp only [ByteArray.size_append, bs1]; omega)
          have sz2b : decide ((d ++ (⟨#[40]⟩ : ByteArray)).size + (joinB out).size ≤ 9223372036854775807) = true := decide_eq_true (by simp only [ByteArray.size_append, bs1]; omega)
          have sz3a : (9223372036854775807 < d.size + 1 + (joinB out).size + 1) = False := eq_false (by omega)
          have sz3b : decide (d.size + 1 + (joinB out).size + 1 ≤ 9223372036854775807) = true := decide_eq_true (by omega)
          have sz4a : (9223372036854775807 < ((d ++ (⟨#[40]⟩ : ByteArray)) ++ joinB out).size + 1) = False := eq_false (by simp only [ByteArray.size_append, bs1]; omega)
          have sz4b : decide (((d ++ (⟨#[40]⟩ : ByteArray)) ++ joinB out).size + 1 ≤ 9223372036854775807) = true := decide_eq_true (by simp only [ByteArray.size_append, bs1]; omega)
          clear c8 c9 c10 bs1 bs2
          obtain ⟨Ao, co, eo⟩ := Kd.R_slice HO.out
          subst eo
          go_wp2_with (first | (go_at_call 46; (with_reducible refine (impl_decimal.calls x.f1 d _ A8.out).mono ?_); rintro e w' ⟨rfl, ⟨nd, rfl⟩⟩) | (go_at_call 95; (refine (join_calls (base := w.heap.size) (ok := fun k_ => g1 < k_) Ao co out _ ?sR ?sL ?sN).mono ?_); (case sR => exact (by (with_reducible repeat (first | apply Kd.R_alloc | apply Kd.R_drewN | apply Kd.R_drew)); exact HO.out)); (case sL => have := HZ.out.1; omega); (case sN => have := HZ.out.2; omega); rintro e w9 ⟨rfl, hb⟩; have n0_ := Aside0.mk (below_step (by repeat (first | (with_reducible first | exact HB.out | apply below_alloc | apply pw_below_drewN | apply below_drew1) | exact HB.out)) hb); clear HB hb; have HB := n0_; clear n0_))
          go_ret
          exact ⟨by first | rfl | (simp; done), (by repeat (first | (with_reducible first | exact HB.out | apply below_alloc | apply pw_below_drewN | apply below_drew1) | exact HB.out))⟩
end Go.Proofs.YtijmdlhcidjpmaaDoor.P

namespace Go.Proofs.YtijmdlhcidjpmaaDoor.P
open Go.RowKit Go.Proofs.YtijmdlhcidjpmaaDoorW.PrintWords Go.Proofs.YtijmdlhcidjpmaaDoorW.PrintLast Go.Proofs.YtijmdlhcidjpmaaDoorW.PrintMore
attribute [local go_sem] max2_int min2_int max_two min_two max_three min_three max_four min_four
set_option linter.unusedVariables false
set_option linter.unusedSimpArgs false

/-! ### impl_GateText: function 22 (by hand) -/
def impl_GateText.f (k : Nat) (a0 : Int) (a1_0 : Int) (a1_1 : Int) (l1_2 : List S46) : Option ByteArray := (impl_ValidGate.f k a0 a1_0 a1_1 l1_2).bind fun t => (if t = true then textI.f k ⟨a1_0, a1_1, l1_2⟩ else some (⟨#[]⟩ : ByteArray))
set_option maxHeartbeats 8000000 in
set_option maxRecDepth 100000 in
theorem impl_GateText.calls (k : Nat) (a0 : Int) (a1_0 : Int) (a1_1 : Int) (A1_2 : Option Addr) (c1_2 : Nat) (l1_2 : List S46) (r : ByteArray) (w : World) (hr1_2 : Kd.C k46 w A1_2 l1_2.length l1_2) (hc1_2 : l1_2.length ≤ c1_2) (h : impl_GateText.f k a0 a1_0 a1_1 l1_2 = some r) :
    Calls Tryd.prog 22 #[.int .i64 a0, .agg #[.int .i64 a1_0, .int .i64 a1_1, .slice A1_2 l1_2.length c1_2]] w fun e w' => e = .returned (.string r) ∧ Below w.heap.size w w' := by
  have hu29 := Tryd.underlying46
  have HR := Aside0.mk hr1_2
  have HC := Aside0.mk hc1_2
  clear hr1_2 hc1_2
  have HB := Aside0.mk (Below.refl w.heap.size w)
  unfold impl_GateText.f at h
  replace h := Option.bind_eq_some_iff.mp h
  obtain ⟨t, At, H⟩ := h
  have A3 := Aside0.mk At
  clear At
  by_cases c4 : t = true
  · subst c4
    rw [if_pos rfl] at H
    have A4 := Aside0.mk H
    clear H
    go_enter Tryd.func22, Tryd.ntmps22
    go_wp2_with (first | ((with_reducible refine gate_dst (N := 3) rfl ?_); refine box_event ?hg (N := 3) ?hd (cs := #[.int .i64 a1_0, .int .i64 a1_1, .slice A1_2 l1_2.length c1_2]) (t := 46) ?hr ?_; (case hd => rfl); (case hg => rfl); (case hr => first | (go_simp; done) | (go_simp; rfl)); intro g3 hg w1 hbox hb; have n0_ := Aside0.mk (below_step (by repeat (first | (with_reducible first | exact HB.out | apply below_alloc | apply pw_below_drewN | apply below_drew1) | exact HB.out)) hb); have GW_g3 := Aside0.mk ((by rw [hg]; exact below_size (by repeat (first | (with_reducible first | exact HB.out | apply below_alloc | apply pw_below_drewN | apply below_drew1) | exact HB.out))) : w.heap.size ≤ g3); clear HB ; have HB := n0_; clear n0_; have BK_g3 := Aside0.mk hbox; clear hbox hb hg; have hz_g30 : w1.cell? ⟨g3, 0, none⟩ = some (.int .i64 a1_0) := (blk_cell BK_g3.out 0).trans rfl; have hz_g3f0 := blk_frozen BK_g3.out 0; have hz_g31 : w1.cell? ⟨g3, 1, none⟩ = some (.int .i64 a1_1) := (blk_cell BK_g3.out 1).trans rfl; have hz_g3f1 := blk_frozen BK_g3.out 1; have hz_g32 : w1.cell? ⟨g3, 2, none⟩ = some (.slice A1_2 l1_2.length c1_2) := (blk_cell BK_g3.out 2).trans rfl; have hz_g3f2 := blk_frozen BK_g3.out 2) | (go_at_call 52; (with_reducible refine (impl_ValidGate.calls k a0 a1_0 a1_1 _ _ l1_2 true _ ?side1 ?side2 A3.out).mono ?_); (case side1 => exact Kd.C_below HR.out (by repeat (first | (with_reducible first | exact HB.out | apply below_alloc | apply pw_below_drewN | apply below_drew1) | exact HB.out))); (case side2 => exact HC.out); rintro e w5 ⟨rfl, hb⟩; have n0_ := Aside0.mk (below_step (by repeat (first | (with_reducible first | exact HB.out | apply below_alloc | apply pw_below_drewN | apply below_drew1) | exact HB.out)) hb); have n1_ := Aside0.mk (blk_below (g := g3) (o := .cells #[.int .i64 a1_0, .int .i64 a1_1, .slice A1_2 l1_2.length c1_2] 46 (0, 0)) (by (with_reducible repeat (first | refine blk_drewN ?_ _ | refine blk_drew ?_ | refine blk_alloc ?_ _)); exact BK_g3.out) hb); clear HB BK_g3 hz_g30 hz_g3f0 hz_g31 hz_g3f1 hz_g32 hz_g3f2 hb; have HB := n0_; have BK_g3 := n1_; clear n0_ n1_; have hz_g30 : w5.cell? ⟨g3, 0, none⟩ = some (.int .i64 a1_0) := (blk_cell BK_g3.out 0).trans rfl; have hz_g3f0 := blk_frozen BK_g3.out 0; have hz_g31 : w5.cell? ⟨g3, 1, none⟩ = some (.int .i64 a1_1) := (blk_cell BK_g3.out 1).trans rfl; have hz_g3f1 := blk_frozen BK_g3.out 1; have hz_g32 : w5.cell? ⟨g3, 2, none⟩ = some (.slice A1_2 l1_2.length c1_2) := (blk_cell BK_g3.out 2).trans rfl; have hz_g3f2 := blk_frozen BK_g3.out 2) | (go_at_call 53; (with_reducible refine (textI.calls k ⟨a1_0, a1_1, l1_2⟩ A1_2 c1_2 r _ ?sR HC.out A4.out).mono ?_); (case sR => exact Kd.C_below HR.out (by repeat (first | (with_reducible first | exact HB.out | apply below_alloc | apply pw_below_drewN | apply below_drew1) | exact HB.out))); rintro e w6 ⟨rfl, hb⟩; have n0_ := Aside0.mk (below_step (by repeat (first | (with_reducible first | exact HB.out | apply below_alloc | apply pw_below_drewN | apply below_drew1) | exact HB.out)) hb); clear HB hb; have HB := n0_; clear n0_))
    go_ret
    exact ⟨rfl, (by repeat (first | (with_reducible first | exact HB.out | apply below_alloc | apply pw_below_drewN | apply below_drew1) | exact HB.out))⟩
  · replace c4 := Bool.eq_false_iff.mpr c4
    subst c4
    rw [if_neg (show ¬ (false = true) by decide)] at H
    obtain rfl := Option.some.inj H
    clear H
    go_enter Tryd.func22, Tryd.ntmps22
    go_wp2_with (first | ((with_reducible refine gate_dst (N := 3) rfl ?_); refine box_event ?hg (N := 3) ?hd (cs := #[.int .i64 a1_0, .int .i64 a1_1, .slice A1_2 l1_2.length c1_2]) (t := 46) ?hr ?_; (case hd => rfl); (case hg => rfl); (case hr => first | (go_simp; done) | (go_simp; rfl)); intro g3 hg w1 hbox hb; have n0_ := Aside0.mk (below_step (by repeat (first | (with_reducible first | exact HB.out | apply below_alloc | apply pw_below_drewN | apply below_drew1) | exact HB.out)) hb); have GW_g3 := Aside0.mk ((by rw [hg]; exact below_size (by repeat (first | (with_reducible first | exact HB.out | apply below_alloc | apply pw_below_drewN | apply below_drew1) | exact HB.out))) : w.heap.size ≤ g3); clear HB ; have HB := n0_; clear n0_; have BK_g3 := Aside0.mk hbox; clear hbox hb hg; have hz_g30 : w1.cell? ⟨g3, 0, none⟩ = some (.int .i64 a1_0) := (blk_cell BK_g3.out 0).trans rfl; have hz_g3f0 := blk_frozen BK_g3.out 0; have hz_g31 : w1.cell? ⟨g3, 1, none⟩ = some (.int .i64 a1_1) := (blk_cell BK_g3.out 1).trans rfl; have hz_g3f1 := blk_frozen BK_g3.out 1; have hz_g32 : w1.cell? ⟨g3, 2, none⟩ = some (.slice A1_2 l1_2.length c1_2) := (blk_cell BK_g3.out 2).trans rfl; have hz_g3f2 := blk_frozen BK_g3.out 2) | (go_at_call 52; (with_reducible refine (impl_ValidGate.calls k a0 a1_0 a1_1 _ _ l1_2 false _ ?side1 ?side2 A3.out).mono ?_); (case side1 => exact Kd.C_below HR.out (by repeat (first | (with_reducible first | exact HB.out | apply below_alloc | apply pw_below_drewN | apply below_drew1) | exact HB.out))); (case side2 => exact HC.out); rintro e w5 ⟨rfl, hb⟩; have n0_ := Aside0.mk (below_step (by repeat (first | (with_reducible first | exact HB.out | apply below_alloc | apply pw_below_drewN | apply below_drew1) | exact HB.out)) hb); have n1_ := Aside0.mk (blk_below (g := g3) (o := .cells #[.int .i64 a1_0, .int .i64 a1_1, .slice A1_2 l1_2.length c1_2] 46 (0, 0)) (by (with_reducible repeat (first | refine blk_drewN ?_ _ | refine blk_drew ?_ | refine blk_alloc ?_ _)); exact BK_g3.out) hb); clear HB BK_g3 hz_g30 hz_g3f0 hz_g31 hz_g3f1 hz_g32 hz_g3f2 hb; have HB := n0_; have BK_g3 := n1_; clear n0_ n1_; have hz_g30 : w5.cell? ⟨g3, 0, none⟩ = some (.int .i64 a1_0) := (blk_cell BK_g3.out 0).trans rfl; have hz_g3f0 := blk_frozen BK_g3.out 0; have hz_g31 : w5.cell? ⟨g3, 1, none⟩ = some (.int .i64 a1_1) := (blk_cell BK_g3.out 1).trans rfl; have hz_g3f1 := blk_frozen BK_g3.out 1; have hz_g32 : w5.cell? ⟨g3, 2, none⟩ = some (.slice A1_2 l1_2.length c1_2) := (blk_cell BK_g3.out 2).trans rfl; have hz_g3f2 := blk_frozen BK_g3.out 2))
    go_ret
    exact ⟨rfl, (by repeat (first | (with_reducible first | exact HB.out | apply below_alloc | apply pw_below_drewN | apply below_drew1) | exact HB.out))⟩

end Go.Proofs.YtijmdlhcidjpmaaDoor.P

namespace Go.Proofs.YtijmdlhcidjpmaaDoor.P
open Go.RowKit Go.Proofs.YtijmdlhcidjpmaaDoorW.PrintWords Go.Proofs.YtijmdlhcidjpmaaDoorW.PrintLast Go.Proofs.YtijmdlhcidjpmaaDoorW.PrintMore
attribute [local go_sem] max2_int min2_int max_two min_two max_three min_three max_four min_four
set_option linter.unusedVariables false
set_option linter.unusedSimpArgs false

/-! ### laws_szGateS: function 48 -/
mutual
def laws_szGateS.l0 : Nat → List (S41) → Int → Int → Option (Int)
  | 0, _, _, _ => none
  | k + 1, x0, x1, x5 => if x5 < (x0.length : Int) then (if 0 ≤ x5 then ((laws_szGate.f k ((rd_T41 x0 x5).f0) ((rd_T41 x0 x5).f1) ((rd_T41 x0 x5).f2) x1).bind fun t274 => (if t274 < 0 then (some (-1)) else (laws_szGateS.l0 k x0 t274 (wrap64 (x5 + 1))))) else (none)) else (some x1)
def laws_szGateS.f : Nat → List (S41) → Int → Option (Int)
  | 0, _, _ => none
  | k + 1, l0, a1 => if (wrap64 (a1 - (l0.length : Int))) < 0 then (some (-1)) else (laws_szGateS.l0 k l0 (wrap64 (a1 - (l0.length : Int))) 0)
def laws_szGate.f : Nat → Int → Int → (List (S41)) → Int → Option (Int)
  | 0, _, _, _, _ => none
  | k + 1, a0_0, a0_1, l0_2, a1 => (laws_szGateS.f k l0_2 a1).bind fun t272 => (if t272 < 0 then (some (-1)) else (some t272))
end
set_option maxHeartbeats 8000000 in
set_option maxRecDepth 100000 in
theorem laws_szGate.calls_of (k : Nat) (IH : ∀ (A0 : Option Addr) (c0 : Nat) (l0 : List (S41)) (a1 : Int) (r : Int) (w : World) (hr0 : Kd.C k41 w A0 l0.length l0) (hc0 : l0.length ≤ c0) (h : laws_szGateS.f k l0 a1 = some r), Calls Tryd.prog 48 #[.slice A0 l0.length c0, .int .i64 a1] w fun e w' => e = .returned (.int .i64 r) ∧ Below w.heap.size w w') (a0_0 : Int) (a0_1 : Int) (A0_2 : Option Addr) (c0_2 : Nat) (l0_2 : List (S41)) (a1 : Int) (r : Int) (w : World) (hr0_2 : Kd.C k41 w A0_2 l0_2.length l0_2) (hc0_2 : l0_2.length ≤ c0_2) (h : laws_szGate.f (k + 1) a0_0 a0_1 l0_2 a1 = some r) :
    Calls Tryd.prog 19 #[.agg #[.int .i64 a0_0, .int .i64 a0_1, .slice A0_2 l0_2.length c0_2], .int .i64 a1] w fun e w' => e = .returned (.int .i64 r) ∧ Below w.heap.size w w' := by
  simp only [laws_szGate.f] at h
  have hu41 := Tryd.underlying41
  have HR0_2 := Aside0.mk hr0_2
  have HC0_2 := Aside0.mk hc0_2
  clear hr0_2 hc0_2
  have HB := Aside0.mk (Below.refl w.heap.size w)
  have H : ((laws_szGateS.f k l0_2 a1).bind fun t272 => (if t272 < 0 then (some (-1)) else (some t272))) = some r := h
  clear h
  replace H := Option.bind_eq_some_iff.mp H
  obtain ⟨t272, A30, H⟩ := H
  replace H : (if t272 < 0 then (some (-1)) else (some t272)) = some r := H
  have A3 := Aside0.mk A30
  clear A30
  by_cases c4 : t272 < 0
  · rw [if_pos c4] at H
    have c4b0 : decide (t272 < 0) = true := decide_eq_true c4
    clear c4
    obtain rfl := Option.some.inj H
    go_enter Tryd.func19, Tryd.ntmps19
    go_wp2_with (first | ((with_reducible refine gate_dst (N := 2) rfl ?_); refine box_event ?hg (N := 2) ?hd (cs := #[.int .i64 a0_0, .int .i64 a0_1, .slice A0_2 l0_2.length c0_2]) (t := 41) ?hr ?_; (case hd => rfl); (case hg => rfl); (case hr => first | (go_simp; done) | (go_simp; rfl)); intro gb271 hg w5 hbox hb; have n0_ := Aside0.mk (below_step (by repeat (first | (with_reducible first | exact HB.out | apply below_alloc | apply pw_below_drewN | apply below_drew1) | exact HB.out)) hb); have n1_ := Aside0.mk (hbox); have n2_ := Aside0.mk ((by rw [hg]; exact (below_size (by repeat (first | (with_reducible first | exact HB.out | apply below_alloc | apply pw_below_drewN | apply below_drew1) | exact HB.out))) : w.heap.size ≤ gb271)); have n3_ := Aside0.mk ((by rw [hg]; exact (below_size (by repeat (first | (with_reducible first | exact HB.out | apply below_alloc | apply pw_below_drewN | apply below_drew1) | exact HB.out))) : w.heap.size ≤ gb271)); clear HB; have HB := n0_; have BK271 := n1_; have GW271 := n2_; have GE271 := n3_; clear n0_ n1_ n2_ n3_; clear hb hbox hg; have hcz6_0 : w5.cell? ⟨gb271, 0, none⟩ = some (.int .i64 a0_0) := (blk_cell BK271.out 0).trans rfl; have hcz6_1 : w5.cell? ⟨gb271, 1, none⟩ = some (.int .i64 a0_1) := (blk_cell BK271.out 1).trans rfl; have hcz6_2 : w5.cell? ⟨gb271, 2, none⟩ = some (.slice A0_2 l0_2.length c0_2) := (blk_cell BK271.out 2).trans rfl; have hfz6_0 := blk_frozen BK271.out 0; have hfz6_1 := blk_frozen BK271.out 1; have hfz6_2 := blk_frozen BK271.out 2) | ((with_reducible refine gate_callee (f := 48) rfl ?_); refine goesL_ (some 8) rfl rfl Tryd.func48 (by kernel_rfl) rfl #[.slice A0_2 l0_2.length c0_2, .int .i64 a1] rfl (by (try simp only [List.map_toArray, List.map_cons, List.map_nil]); first | done | rfl | (simp only [List.length_drop, List.length_take]; rfl)) ?_; (with_reducible refine (IH _ _ l0_2 a1 t272 _ ?side1 ?side2 A3.out).mono ?_); (case side1 => repeat (first | exact (Kd.C_below HR0_2.out HB.out) | (with_reducible refine Kd.C_alloc ?_ _) | (with_reducible refine Kd.C_drewN ?_ _) | (with_reducible refine Kd.C_drew ?_))); (case side2 => exact HC0_2.out); rintro e w7 ⟨rfl, hb⟩; refine ⟨_, rfl, ?_⟩; have n0_ := Aside0.mk (blk_below (g := gb271) (o := .cells #[.int .i64 a0_0, .int .i64 a0_1, .slice A0_2 l0_2.length c0_2] 41 (0, 0)) (by (with_reducible repeat (first | refine blk_drewN ?_ _ | refine blk_drew ?_ | refine blk_alloc ?_ _)); exact BK271.out) hb); have n1_ := Aside0.mk (below_step (by repeat (first | (with_reducible first | exact HB.out | apply below_alloc | apply pw_below_drewN | apply below_drew1 | refine below_set ?_ GE271.out) | exact HB.out)) hb); clear BK271; clear HB; have BK271 := n0_; have HB := n1_; clear n0_ n1_; (try clear hb); (try clear hb2); (try clear hk); (try clear hi)))
    go_ret
    exact ⟨by first | rfl | (simp [errW_none, errW_some] <;> rfl) | (simp [*, errW_none, errW_some] <;> rfl), by repeat (first | (with_reducible first | exact HB.out | apply below_alloc | apply pw_below_drewN | apply below_drew1 | refine below_set ?_ GE271.out) | exact HB.out)⟩
  · rw [if_neg c4] at H
    have c4b0 : decide (t272 < 0) = false := decide_eq_false c4
    clear c4
    obtain rfl := Option.some.inj H
    go_enter Tryd.func19, Tryd.ntmps19
    go_wp2_with (first | ((with_reducible refine gate_dst (N := 2) rfl ?_); refine box_event ?hg (N := 2) ?hd (cs := #[.int .i64 a0_0, .int .i64 a0_1, .slice A0_2 l0_2.length c0_2]) (t := 41) ?hr ?_; (case hd => rfl); (case hg => rfl); (case hr => first | (go_simp; done) | (go_simp; rfl)); intro gb271 hg w8 hbox hb; have n0_ := Aside0.mk (below_step (by repeat (first | (with_reducible first | exact HB.out | apply below_alloc | apply pw_below_drewN | apply below_drew1) | exact HB.out)) hb); have n1_ := Aside0.mk (hbox); have n2_ := Aside0.mk ((by rw [hg]; exact (below_size (by repeat (first | (with_reducible first | exact HB.out | apply below_alloc | apply pw_below_drewN | apply below_drew1) | exact HB.out))) : w.heap.size ≤ gb271)); have n3_ := Aside0.mk ((by rw [hg]; exact (below_size (by repeat (first | (with_reducible first | exact HB.out | apply below_alloc | apply pw_below_drewN | apply below_drew1) | exact HB.out))) : w.heap.size ≤ gb271)); clear HB; have HB := n0_; have BK271 := n1_; have GW271 := n2_; have GE271 := n3_; clear n0_ n1_ n2_ n3_; clear hb hbox hg; have hcz9_0 : w8.cell? ⟨gb271, 0, none⟩ = some (.int .i64 a0_0) := (blk_cell BK271.out 0).trans rfl; have hcz9_1 : w8.cell? ⟨gb271, 1, none⟩ = some (.int .i64 a0_1) := (blk_cell BK271.out 1).trans rfl; have hcz9_2 : w8.cell? ⟨gb271, 2, none⟩ = some (.slice A0_2 l0_2.length c0_2) := (blk_cell BK271.out 2).trans rfl; have hfz9_0 := blk_frozen BK271.out 0; have hfz9_1 := blk_frozen BK271.out 1; have hfz9_2 := blk_frozen BK271.out 2) | ((with_reducible refine gate_callee (f := 48) rfl ?_); refine goesL_ (some 8) rfl rfl Tryd.func48 (by kernel_rfl) rfl #[.slice A0_2 l0_2.length c0_2, .int .i64 a1] rfl (by (try simp only [List.map_toArray, List.map_cons, List.map_nil]); first | done | rfl | (simp only [List.length_drop, List.length_take]; rfl)) ?_; (with_reducible refine (IH _ _ l0_2 a1 t272 _ ?side1 ?side2 A3.out).mono ?_); (case side1 => repeat (first | exact (Kd.C_below HR0_2.out HB.out) | (with_reducible refine Kd.C_alloc ?_ _) | (with_reducible refine Kd.C_drewN ?_ _) | (with_reducible refine Kd.C_drew ?_))); (case side2 => exact HC0_2.out); rintro e w10 ⟨rfl, hb⟩; refine ⟨_, rfl, ?_⟩; have n0_ := Aside0.mk (blk_below (g := gb271) (o := .cells #[.int .i64 a0_0, .int .i64 a0_1, .slice A0_2 l0_2.length c0_2] 41 (0, 0)) (by (with_reducible repeat (first | refine blk_drewN ?_ _ | refine blk_drew ?_ | refine blk_alloc ?_ _)); exact BK271.out) hb); have n1_ := Aside0.mk (below_step (by repeat (first | (with_reducible first | exact HB.out | apply below_alloc | apply pw_below_drewN | apply below_drew1 | refine below_set ?_ GE271.out) | exact HB.out)) hb); clear BK271; clear HB; have BK271 := n0_; have HB := n1_; clear n0_ n1_; (try clear hb); (try clear hb2); (try clear hk); (try clear hi)))
    go_ret
    exact ⟨by first | rfl | (simp [errW_none, errW_some] <;> rfl) | (simp [*, errW_none, errW_some] <;> rfl), by repeat (first | (with_reducible first | exact HB.out | apply below_alloc | apply pw_below_drewN | apply below_drew1 | refine below_set ?_ GE271.out) | exact HB.out)⟩
set_option maxHeartbeats 8000000 in
set_option maxRecDepth 100000 in
theorem laws_szGateS.calls (k : Nat) : ∀ (A0 : Option Addr) (c0 : Nat) (l0 : List (S41)) (a1 : Int) (r : Int) (w : World) (hr0 : Kd.C k41 w A0 l0.length l0) (hc0 : l0.length ≤ c0) (h : laws_szGateS.f k l0 a1 = some r),
    Calls Tryd.prog 48 #[.slice A0 l0.length c0, .int .i64 a1] w fun e w' => e = .returned (.int .i64 r) ∧ Below w.heap.size w w' := by
  induction k using Nat.strongRecOn with
  | _ k ih =>
  have ihG : ∀ m, m < k → ∀ (a0_0 : Int) (a0_1 : Int) (A0_2 : Option Addr) (c0_2 : Nat) (l0_2 : List (S41)) (a1 : Int) (r : Int) (w : World) (hr0_2 : Kd.C k41 w A0_2 l0_2.length l0_2) (hc0_2 : l0_2.length ≤ c0_2) (h : laws_szGate.f m a0_0 a0_1 l0_2 a1 = some r), Calls Tryd.prog 19 #[.agg #[.int .i64 a0_0, .int .i64 a0_1, .slice A0_2 l0_2.length c0_2], .int .i64 a1] w fun e w' => e = .returned (.int .i64 r) ∧ Below w.heap.size w w' := by
    intro m hm
    cases m with
    | zero => intro a0_0 a0_1 A0_2 c0_2 l0_2 a1 r w hr0_2 hc0_2 h; exact absurd h (by simp [laws_szGate.f])
    | succ m => exact fun a0_0 a0_1 A0_2 c0_2 l0_2 a1 r w hr0_2 hc0_2 h => laws_szGate.calls_of m (ih m (by omega)) a0_0 a0_1 A0_2 c0_2 l0_2 a1 r w hr0_2 hc0_2 h
  intro A0 c0 l0 a1 r w hr0 hc0 h
  cases k with
  | zero => exact absurd h (by simp [laws_szGateS.f])
  | succ k =>
  simp only [laws_szGateS.f] at h
  have hu41 := Tryd.underlying41
  have HR0 := Aside0.mk hr0
  have HC0 := Aside0.mk hc0
  clear hr0 hc0
  have HB := Aside0.mk (Below.refl w.heap.size w)
  have H : (if (wrap64 (a1 - (l0.length : Int))) < 0 then (some (-1)) else (laws_szGateS.l0 k l0 (wrap64 (a1 - (l0.length : Int))) 0)) = some r := h
  clear h
  by_cases c3 : (wrap64 (a1 - (l0.length : Int))) < 0
  · rw [if_pos c3] at H
    have c3b0 : decide ((wrap64 (a1 - (l0.length : Int))) < 0) = true := decide_eq_true c3
    clear c3
    obtain rfl := Option.some.inj H
    go_enter Tryd.func48, Tryd.ntmps48
    go_wp2
    go_ret
    exact ⟨by first | rfl | (simp [errW_none, errW_some] <;> rfl) | (simp [*, errW_none, errW_some] <;> rfl), by repeat (first | (with_reducible first | exact HB.out | apply below_alloc | apply pw_below_drewN | apply below_drew1) | exact HB.out)⟩
  · rw [if_neg c3] at H
    have c3b0 : decide ((wrap64 (a1 - (l0.length : Int))) < 0) = false := decide_eq_false c3
    clear c3
    have H' := Aside0.mk H
    clear H
    go_enter Tryd.func48, Tryd.ntmps48
    go_wp2
    go_loopg [1, 5] k (fun kq v1 v5 w' => ∃ (x1_1 : Int) (x5_1 : Int), v1 = .int .i64 x1_1 ∧ v5 = .int .i64 x5_1 ∧ Aside0 (laws_szGateS.l0 kq l0 x1_1 x5_1 = some r) ∧ Aside0 (kq ≤ k) ∧ Aside0 (Below w.heap.size w w'))
    case atStart => exact ⟨(wrap64 (a1 - (l0.length : Int))), (0), (by first | rfl | (simp; done) | (simp [*]; done)), (by first | rfl | (simp; done) | (simp [*]; done)), H', ⟨Nat.le_refl _⟩, ⟨by repeat (first | (with_reducible first | exact HB.out | apply below_alloc | apply pw_below_drewN | apply below_drew1) | exact HB.out)⟩⟩
    case round =>
      clear H'
      try clear p2
      try clear c3
      try clear c3b0
      obtain ⟨x1_1, x5_1, rfl, rfl, HA, HK1, HB⟩ := hrel
      cases gk with
      | zero => exact absurd HA.out (by simp [laws_szGateS.l0])
      | succ k1 =>
        have H := HA.out
        clear HA
        simp only [laws_szGateS.l0] at H
        by_cases c4 : x5_1 < (l0.length : Int)
        · rw [if_pos c4] at H
          have c4b0 : decide (x5_1 < (l0.length : Int)) = true := decide_eq_true c4
          clear c4
          by_cases c5 : 0 ≤ x5_1
          · rw [if_pos c5] at H
            have c5b0 : decide (0 ≤ x5_1) = true := decide_eq_true c5
            clear c5
            replace H := Option.bind_eq_some_iff.mp H
            obtain ⟨t274, A60, H⟩ := H
            replace H : (if t274 < 0 then (some (-1)) else (laws_szGateS.l0 k1 l0 t274 (wrap64 (x5_1 + 1)))) = some r := H
            have A6 := Aside0.mk A60
            clear A60
            by_cases c7 : t274 < 0
            · rw [if_pos c7] at H
              have c7b0 : decide (t274 < 0) = true := decide_eq_true c7
              clear c7
              obtain rfl := Option.some.inj H
              have p273 : 0 ≤ (x5_1 : Int) := of_decide_eq_true (by first | (with_reducible assumption) | assumption)
              have q273 : x5_1 < (l0.length : Int) := of_decide_eq_true (by first | (with_reducible assumption) | assumption)
              obtain ⟨ad273, A273_2, c273_2, e273, hx273_0, hx273_1, hx273_2, hl273_2, hi273_2⟩ := at_T41 HR0.out x5_1 p273 q273
              cases e273
              replace hx273_0 := (HB.out.cell (World.block_lt_of_cell? w _ hx273_0)).trans hx273_0
              replace hx273_1 := (HB.out.cell (World.block_lt_of_cell? w _ hx273_1)).trans hx273_1
              replace hx273_2 := (HB.out.cell (World.block_lt_of_cell? w _ hx273_2)).trans hx273_2
              have HR273_2 := Aside0.mk hi273_2
              have HC273_2 := Aside0.mk hl273_2
              clear hi273_2 hl273_2
              replace p273 := eq_true p273
              replace q273 := eq_true q273
              go_wp2_with (first | ((with_reducible refine gate_callee (f := 19) rfl ?_); refine goesL_ (some 23) rfl rfl Tryd.func19 (by kernel_rfl) rfl #[.agg #[.int .i64 ((rd_T41 l0 x5_1).f0), .int .i64 ((rd_T41 l0 x5_1).f1), .slice A273_2 ((rd_T41 l0 x5_1).f2).length c273_2], .int .i64 x1_1] rfl (by (try simp only [List.map_toArray, List.map_cons, List.map_nil]); first | done | rfl | (simp only [List.length_drop, List.length_take]; rfl)) ?_; (with_reducible refine (ihG k1 (by have := HK1.out; omega) ((rd_T41 l0 x5_1).f0) ((rd_T41 l0 x5_1).f1) _ _ ((rd_T41 l0 x5_1).f2) x1_1 t274 _ ?side1 ?side2 A6.out).mono ?_); (case side1 => repeat (first | exact (Kd.C_below HR273_2.out HB.out) | (with_reducible refine Kd.C_alloc ?_ _) | (with_reducible refine Kd.C_drewN ?_ _) | (with_reducible refine Kd.C_drew ?_))); (case side2 => exact HC273_2.out); rintro e w8 ⟨rfl, hb⟩; refine ⟨_, rfl, ?_⟩; have n0_ := Aside0.mk (below_step (by repeat (first | (with_reducible first | exact HB.out | apply below_alloc | apply pw_below_drewN | apply below_drew1) | exact HB.out)) hb); clear HB; have HB := n0_; clear n0_; (try clear hb); (try clear hb2); (try clear hk); (try clear hi)))
              go_ret
              exact ⟨by first | rfl | (simp [errW_none, errW_some] <;> rfl) | (simp [*, errW_none, errW_some] <;> rfl), by repeat (first | (with_reducible first | exact HB.out | apply below_alloc | apply pw_below_drewN | apply below_drew1) | exact HB.out)⟩
            · rw [if_neg c7] at H
              have c7b0 : decide (t274 < 0) = false := decide_eq_false c7
              clear c7
              have H' := Aside0.mk H
              clear H
              have p273 : 0 ≤ (x5_1 : Int) := of_decide_eq_true (by first | (with_reducible assumption) | assumption)
              have q273 : x5_1 < (l0.length : Int) := of_decide_eq_true (by first | (with_reducible assumption) | assumption)
              obtain ⟨ad273, A273_2, c273_2, e273, hx273_0, hx273_1, hx273_2, hl273_2, hi273_2⟩ := at_T41 HR0.out x5_1 p273 q273
              cases e273
              replace hx273_0 := (HB.out.cell (World.block_lt_of_cell? w _ hx273_0)).trans hx273_0
              replace hx273_1 := (HB.out.cell (World.block_lt_of_cell? w _ hx273_1)).trans hx273_1
              replace hx273_2 := (HB.out.cell (World.block_lt_of_cell? w _ hx273_2)).trans hx273_2
              have HR273_2 := Aside0.mk hi273_2
              have HC273_2 := Aside0.mk hl273_2
              clear hi273_2 hl273_2
              replace p273 := eq_true p273
              replace q273 := eq_true q273
              go_wp2_with (first | ((with_reducible refine gate_callee (f := 19) rfl ?_); refine goesL_ (some 23) rfl rfl Tryd.func19 (by kernel_rfl) rfl #[.agg #[.int .i64 ((rd_T41 l0 x5_1).f0), .int .i64 ((rd_T41 l0 x5_1).f1), .slice A273_2 ((rd_T41 l0 x5_1).f2).length c273_2], .int .i64 x1_1] rfl (by (try simp only [List.map_toArray, List.map_cons, List.map_nil]); first | done | rfl | (simp only [List.length_drop, List.length_take]; rfl)) ?_; (with_reducible refine (ihG k1 (by have := HK1.out; omega) ((rd_T41 l0 x5_1).f0) ((rd_T41 l0 x5_1).f1) _ _ ((rd_T41 l0 x5_1).f2) x1_1 t274 _ ?side1 ?side2 A6.out).mono ?_); (case side1 => repeat (first | exact (Kd.C_below HR273_2.out HB.out) | (with_reducible refine Kd.C_alloc ?_ _) | (with_reducible refine Kd.C_drewN ?_ _) | (with_reducible refine Kd.C_drew ?_))); (case side2 => exact HC273_2.out); rintro e w9 ⟨rfl, hb⟩; refine ⟨_, rfl, ?_⟩; have n0_ := Aside0.mk (below_step (by repeat (first | (with_reducible first | exact HB.out | apply below_alloc | apply pw_below_drewN | apply below_drew1) | exact HB.out)) hb); clear HB; have HB := n0_; clear n0_; (try clear hb); (try clear hb2); (try clear hk); (try clear hi)))
              go_roundg k1
              case measure => have := HK1.out; omega
              case rel => exact ⟨(t274), (wrap64 (x5_1 + 1)), (by first | rfl | (simp; done) | (simp [*]; done)), (by first | rfl | (simp; done) | (simp [*]; done)), H', ⟨by have := HK1.out; omega⟩, ⟨by repeat (first | (with_reducible first | exact HB.out | apply below_alloc | apply pw_below_drewN | apply below_drew1) | exact HB.out)⟩⟩
          · rw [if_neg c5] at H
            exact absurd H (by simp)
        · rw [if_neg c4] at H
          have c4b0 : decide (x5_1 < (l0.length : Int)) = false := decide_eq_false c4
          clear c4
          obtain rfl := Option.some.inj H
          go_wp2
          go_ret
          exact ⟨by first | rfl | (simp [errW_none, errW_some] <;> rfl) | (simp [*, errW_none, errW_some] <;> rfl), by repeat (first | (with_reducible first | exact HB.out | apply below_alloc | apply pw_below_drewN | apply below_drew1) | exact HB.out)⟩
theorem laws_szGate.calls (k : Nat) (a0_0 : Int) (a0_1 : Int) (A0_2 : Option Addr) (c0_2 : Nat) (l0_2 : List (S41)) (a1 : Int) (r : Int) (w : World) (hr0_2 : Kd.C k41 w A0_2 l0_2.length l0_2) (hc0_2 : l0_2.length ≤ c0_2) (h : laws_szGate.f k a0_0 a0_1 l0_2 a1 = some r) :
    Calls Tryd.prog 19 #[.agg #[.int .i64 a0_0, .int .i64 a0_1, .slice A0_2 l0_2.length c0_2], .int .i64 a1] w fun e w' => e = .returned (.int .i64 r) ∧ Below w.heap.size w w' := by
  cases k with
  | zero => exact absurd h (by simp [laws_szGate.f])
  | succ k => exact laws_szGate.calls_of k (laws_szGateS.calls k) a0_0 a0_1 A0_2 c0_2 l0_2 a1 r w hr0_2 hc0_2 h

end Go.Proofs.YtijmdlhcidjpmaaDoor.P

namespace Go.Proofs.YtijmdlhcidjpmaaDoor.P
open Go.RowKit Go.Proofs.YtijmdlhcidjpmaaDoorW.PrintWords Go.Proofs.YtijmdlhcidjpmaaDoorW.PrintLast Go.Proofs.YtijmdlhcidjpmaaDoorW.PrintMore
attribute [local go_sem] max2_int min2_int max_two min_two max_three min_three max_four min_four
set_option linter.unusedVariables false
set_option linter.unusedSimpArgs false

/-- Gates whose kids' rows lie apart, at every depth. -/
def sliceS {α : Type} (e : Nat) (d : Kd α) : Kd (List α) where
  sz := 1
  E := e :: d.E
  K := (Kd.slice e d).K
  M := fun w base ok xs cs => ∃ v, cs = [v] ∧ Kd.S d e w base ok v xs
  K_len := (Kd.slice e d).K_len
  K_one := (Kd.slice e d).K_one
  K_below := (Kd.slice e d).K_below
  K_of_M := by
    rintro w base ok x cs ⟨v, rfl, h⟩
    exact (Kd.slice e d).K_of_M ⟨v, rfl, Kd.S_R h⟩
  M_mono := by
    rintro w base ok ok' x cs hok ⟨v, rfl, h⟩
    exact ⟨v, rfl, Kd.S_mono h hok⟩
  M_bound := by
    rintro w base ok x cs ⟨v, rfl, h⟩
    exact ⟨v, rfl, Kd.S_bound h⟩
  M_move := by
    rintro w w1 base ok x cs hm ⟨v, rfl, h⟩
    exact ⟨v, rfl, Kd.S_move h hm⟩
  M_lower := by
    rintro w base base' ok x cs hb ⟨v, rfl, h⟩
    exact ⟨v, rfl, Kd.S_lower h hb⟩
theorem gS_imp {α : Type} {d d' : Kd α} (hs : d.sz = d'.sz) (h : ∀ w base ok x cs, d.M w base ok x cs → d'.M w base ok x cs) {e : Nat} {w : World} {base : Nat} {ok : Nat → Prop} {v : Value} {xs : List α} (hr : Kd.S d e w base ok v xs) : Kd.S d' e w base ok v xs := by
  obtain ⟨f, hr⟩ := hr
  exact ⟨f, Kd.R_imp (d := Kd.tag f d) (d' := Kd.tag f d') hs (fun w base ok x cs hp => h _ _ _ _ _ hp) hr⟩
theorem mono_sliceS {α β : Type} (e : Nat) {G : Kd α → Kd β} (hG : Kd.Mono G) : Kd.Mono (fun d => sliceS e (G d)) := by
  refine ⟨fun _ _ _ => rfl, ?_, ?_⟩
  · rintro d d' hs h w x cs ⟨A, c, rfl, hl, hr⟩
    exact ⟨A, c, rfl, hl, Kd.C_imp (hG.sz d d' hs) (hG.K d d' hs h) hr⟩
  · rintro d d' hs h w base ok x cs ⟨v, rfl, hr⟩
    exact ⟨v, rfl, gS_imp (hG.sz d d' hs) (hG.M d d' hs h) hr⟩
theorem sub_sliceS {α β : Type} {E : List Nat} (e : Nat) {G : Kd α → Kd β} (he : e ∈ E) (hG : Kd.Sub G E) : Kd.Sub (fun d => sliceS e (G d)) E := fun d h q hq => by
  rcases List.mem_cons.1 hq with rfl | hq
  · exact he
  · exact hG d h q hq
def FG (d : Kd S46) : Kd S46 := Kd.iso (Kd.pair (Kd.int .i64) (Kd.pair (Kd.int .i64) (sliceS 46 d))) (fun x : S46 => (x.f0, x.f1, x.f2))
theorem monoFG : Kd.Mono FG := Kd.mono_iso _ (Kd.mono_pair (Kd.mono_const _) (Kd.mono_pair (Kd.mono_const _) (mono_sliceS 46 Kd.mono_id)))
theorem subFG : Kd.Sub FG [46] := Kd.sub_iso _ (Kd.sub_pair (Kd.sub_const _ (by decide)) (Kd.sub_pair (Kd.sub_const _ (by decide)) (sub_sliceS 46 (by decide) Kd.sub_id)))
theorem szFG : ∀ n, (Kd.upto FG 3 [46] n).sz = 3 := Kd.upto_sz (fun _ => rfl)
def kG : Kd S46 := Kd.fix FG 3 [46] szFG (Kd.upto_E subFG)
theorem kG_K : ∀ n {w : World} {x : S46} {cs : List Value}, (Kd.upto FG 3 [46] n).K w x cs → (Kd.upto F46 3 [46] n).K w x cs
  | 0, _, _, _, h => h.elim
  | n + 1, w, x, cs, h => by
    obtain ⟨c0, c1, rfl, h0, c2, c3, rfl, h1, A, c, rfl, hl, hr⟩ := h
    exact ⟨c0, _, rfl, h0, c2, _, rfl, h1, A, c, rfl, hl, Kd.C_imp (d := Kd.upto FG 3 [46] n) (d' := Kd.upto F46 3 [46] n) (by rw [szFG n, sz46 n]) (fun _ _ _ hp => kG_K n hp) hr⟩
theorem kG_C {w : World} {A : Option Addr} {n : Nat} {xs : List S46} (h : Kd.C kG w A n xs) : Kd.C k46 w A n xs :=
  Kd.C_imp (d := kG) (d' := k46) rfl (fun w x cs ⟨n, hp⟩ => (⟨n, kG_K n hp⟩ : ∃ n, (Kd.upto F46 3 [46] n).K w x cs)) h
/-- Gates of one's own: a row of elements, each with rows of its own. -/
def GS (w : World) (base : Nat) (ok : Nat → Prop) (v : Value) (xs : List S46) : Prop := Kd.S kG 46 w base ok v xs
theorem fixG_back {w : World} {base : Nat} {ok : Nat → Prop} {v : Value} {xs : List S46} (h : Kd.S kG 46 w base ok v xs) : ∃ n, Kd.S (Kd.upto FG 3 [46] n) 46 w base ok v xs := by
  obtain ⟨f, h0, inner, ho, hr⟩ := h
  obtain ⟨N, hN⟩ := Kd.reps_bounded (R := fun n (p : S46 × Nat) c => (Kd.upto FG 3 [46] n).M w base (fun k => (ok k ∧ some k ≠ v.ownBlock) ∧ f k = p.2) p.1 c) (fun n m p c hnm hp => Kd.upto_M_le monoFG szFG hnm hp) hr
  refine ⟨N, f, h0, inner, ?_, ?_⟩
  · show w.ownsRow base 46 (Kd.upto FG 3 [46] N).sz v xs.zipIdx.length inner
    rw [szFG N]
    exact ho
  · show Reps _ (Kd.upto FG 3 [46] N).sz xs.zipIdx inner
    rw [szFG N]
    exact hN
theorem kG_mkM {w : World} {base : Nat} {ok : Nat → Prop} {x : S46} {v : Value} (h : GS w base ok v x.f2) : kG.M w base ok x [.int .i64 x.f0, .int .i64 x.f1, v] := by
  obtain ⟨n, hr⟩ := fixG_back h
  exact ⟨n + 1, [.int .i64 x.f0], [.int .i64 x.f1, v], rfl, rfl, [.int .i64 x.f1], [v], rfl, rfl, v, rfl, hr⟩
theorem GS_nil (w : World) (base : Nat) (ok : Nat → Prop) : GS w base ok (.slice none 0 0) [] := Kd.S_nil _ _ _ _ _
section
variable {e : Nat} {w w1 W W2 : World} {base base' : Nat} {ok ok' : Nat → Prop} {v : Value} {xs : List S46}
theorem Kd.G_lower (h : Kd.S kG e w base ok v xs) (hb : base' ≤ base) : Kd.S kG e w base' ok v xs := Kd.S_lower h hb
theorem Kd.G_mono (h : Kd.S kG e w base ok v xs) (hok : ∀ k, ok k → ok' k) : Kd.S kG e w base ok' v xs := Kd.S_mono h hok
theorem Kd.G_bound (h : Kd.S kG e w base ok v xs) : Kd.S kG e w base (fun k => ok k ∧ base ≤ k ∧ k < w.heap.size ∧ ∃ q, q ∈ e :: kG.E ∧ ∃ cells, w.heap[k]? = some (.cells cells q (0, 0))) v xs := Kd.S_bound h
theorem Kd.G_alloc (h : Kd.S kG e w base ok v xs) (o : Obj) : Kd.S kG e (w.alloc o) base ok v xs := Kd.S_alloc h o
theorem Kd.G_drew (h : Kd.S kG e w base ok v xs) : Kd.S kG e w.drew base ok v xs := Kd.S_drew h
theorem Kd.G_drewN (h : Kd.S kG e w base ok v xs) (m : Nat) : Kd.S kG e (w.drewN m) base ok v xs := Kd.S_drewN h m
theorem Kd.G_below (h : Kd.S kG e w base ok v xs) (hb : Below w.heap.size w w1) : Kd.S kG e w1 base ok v xs := Kd.S_below h hb
theorem Kd.G_slice (h : Kd.S kG e w base ok v xs) : ∃ A c, v = .slice A xs.length c := Kd.S_slice h
theorem Kd.G_reads' {A : Option Addr} {n c : Nat} (h : Kd.S kG e w base ok (.slice A n c) xs) : n = xs.length ∧ n ≤ c ∧ Kd.C k46 w A xs.length xs := by
  obtain ⟨h1, h2, h3⟩ := Kd.S_reads' h
  exact ⟨h1, h2, kG_C h3⟩
end

end Go.Proofs.YtijmdlhcidjpmaaDoor.P

namespace Go.Proofs.YtijmdlhcidjpmaaDoor.P
open Go.RowKit Go.Proofs.YtijmdlhcidjpmaaDoorW.PrintWords Go.Proofs.YtijmdlhcidjpmaaDoorW.PrintLast Go.Proofs.YtijmdlhcidjpmaaDoorW.PrintMore
attribute [local go_sem] max2_int min2_int max_two min_two max_three min_three max_four min_four
set_option linter.unusedVariables false
set_option linter.unusedSimpArgs false

/-! ### laws_toGateS: function 51 (by hand) -/
mutual
def laws_toGateS.l0 : Nat → List S41 → List S46 → Int → Option (List S46)
  | 0, _, _, _ => none
  | k + 1, l, out, i => if i < (l.length : Int) then (if 0 ≤ i then ((laws_toGate.f k (rd_T41 l i).f0 (rd_T41 l i).f1 (rd_T41 l i).f2).bind fun b => if i < (out.length : Int) then laws_toGateS.l0 k l (out.set i.toNat ⟨b.1, b.2.1, b.2.2⟩) (wrap64 (i + 1)) else none) else none) else some out
def laws_toGateS.f : Nat → List S41 → Option (List S46)
  | 0, _ => none
  | k + 1, l => if ((l.length : Int)).toNat ≤ 7036874417766 then laws_toGateS.l0 k l (List.replicate ((l.length : Int)).toNat z46) 0 else none
def laws_toGate.f : Nat → Int → Int → List S41 → Option (Int × Int × List S46)
  | 0, _, _, _ => none
  | k + 1, a0, a1, l => (laws_toGateS.f k l).bind fun t => some (a0, a1, t)
end
set_option maxHeartbeats 8000000 in
set_option maxRecDepth 100000 in
theorem laws_toGate.calls_of (k : Nat) (IH : ∀ (A0 : Option Addr) (c0 : Nat) (l0 : List S41) (r : List S46) (w : World) (hr0 : Kd.C k41 w A0 l0.length l0) (hc0 : l0.length ≤ c0) (h : laws_toGateS.f k l0 = some r), Calls Tryd.prog 51 #[.slice A0 l0.length c0] w fun e w' => ∃ v : Value, e = .returned v ∧ Kd.S kG 46 w' w.heap.size (fun _ => True) v r ∧ Below w.heap.size w w') (a0_0 : Int) (a0_1 : Int) (A0_2 : Option Addr) (c0_2 : Nat) (l0_2 : List S41) (r1 : Int) (r2 : Int) (r3 : List S46) (w : World) (hr0_2 : Kd.C k41 w A0_2 l0_2.length l0_2) (hc0_2 : l0_2.length ≤ c0_2) (h : laws_toGate.f (k + 1) a0_0 a0_1 l0_2 = some (r1, r2, r3)) :
    Calls Tryd.prog 21 #[.agg #[.int .i64 a0_0, .int .i64 a0_1, .slice A0_2 l0_2.length c0_2]] w fun e w' => ∃ v2_ : Value, e = .returned (.agg #[.int .i64 r1, .int .i64 r2, v2_]) ∧ Kd.S kG 46 w' w.heap.size (fun _ => True) v2_ r3 ∧ Below w.heap.size w w' := by
  have hu24 := Tryd.underlying41
  have hu29 := Tryd.underlying46
  have HR := Aside0.mk hr0_2
  have HC := Aside0.mk hc0_2
  clear hr0_2 hc0_2
  simp only [laws_toGate.f] at h
  replace h := Option.bind_eq_some_iff.mp h
  obtain ⟨t, At, H⟩ := h
  obtain ⟨rfl, rfl, rfl⟩ := (by simpa using H : a0_0 = r1 ∧ a0_1 = r2 ∧ t = r3)
  have A1 := Aside0.mk At
  clear At H
  go_enter Tryd.func21, Tryd.ntmps21
  go_wp2_with (first | (go_at_call 51; (with_reducible refine (IH _ _ l0_2 t _ ?side1 ?side2 A1.out).mono ?_); (case side1 => repeat (first | exact HR.out | (with_reducible refine Kd.C_alloc ?_ _) | (with_reducible refine Kd.C_drewN ?_ _) | (with_reducible refine Kd.C_drew ?_))); (case side2 => exact HC.out); rintro e w1 ⟨v, rfl, ho, hb⟩; have n1_ := Aside0.mk (blk_below (g := w.heap.size + 1) (o := .cells #[(.int .i64 0 : Value), (.int .i64 0 : Value), (.slice none 0 0 : Value)] 46 (0, 0)) (by repeat (first | exact blk_new_at (by simp) | (with_reducible refine blk_drewN ?_ _) | (with_reducible refine blk_drew ?_) | (with_reducible refine blk_alloc ?_ _))) hb); have n2_ := Aside0.mk (blk_below (g := w.heap.size + 2) (o := .cells #[.int .i64 a0_0, .int .i64 a0_1, (.slice none 0 0 : Value)] 46 (0, 0)) (by repeat (first | exact blk_new_at (by simp) | (with_reducible refine blk_drewN ?_ _) | (with_reducible refine blk_drew ?_) | (with_reducible refine blk_alloc ?_ _))) hb); have n3_ : Aside0 (Below w.heap.size w w1) := Aside0.mk (below_step (by repeat (first | exact Below.refl _ _ | apply below_alloc | apply pw_below_drewN | apply below_drew1)) hb); have HO := Aside0.mk (Kd.S_lower (base' := w.heap.size) (Kd.S_mono (Kd.S_bound ho) (ok' := fun k_ => w.heap.size + 3 ≤ k_) (fun k_ hk_ => by have h_ := hk_.2.1; (try simp at h_); omega)) (by simp; omega)); obtain ⟨Az, cz, ez⟩ := Kd.S_slice HO.out; subst ez; clear ho hb; have hl1 : w.heap.size + 2 < w1.heap.size := blk_lt n2_.out; have hx0 : w1.cell? ⟨w.heap.size + 1, 0, none⟩ = some ((.int .i64 0 : Value)) := (blk_cell n1_.out 0).trans rfl; have hxf0 := blk_frozen n1_.out 0; have hx1 : w1.cell? ⟨w.heap.size + 1, 1, none⟩ = some ((.int .i64 0 : Value)) := (blk_cell n1_.out 1).trans rfl; have hxf1 := blk_frozen n1_.out 1; have hx2 : w1.cell? ⟨w.heap.size + 1, 2, none⟩ = some ((.slice none 0 0 : Value)) := (blk_cell n1_.out 2).trans rfl; have hxf2 := blk_frozen n1_.out 2; have hz0 : w1.cell? ⟨w.heap.size + 2, 0, none⟩ = some (.int .i64 a0_0) := (blk_cell n2_.out 0).trans rfl; have hzf0 := blk_frozen n2_.out 0; have hz1 : w1.cell? ⟨w.heap.size + 2, 1, none⟩ = some (.int .i64 a0_1) := (blk_cell n2_.out 1).trans rfl; have hzf1 := blk_frozen n2_.out 1; have hz2 : w1.cell? ⟨w.heap.size + 2, 2, none⟩ = some ((.slice none 0 0 : Value)) := (blk_cell n2_.out 2).trans rfl; have hzf2 := blk_frozen n2_.out 2))
  (try simp only [Exit.inBlock, Exit.then])
  refine bodyPost_ret (results_cell_row rfl _ _ (w.heap.size + 1) 46 #[.int .i64 a0_0, .int .i64 a0_1, .slice Az t.length cz] (0, 0) _ rfl (blk_put (blk_put (blk_put (blk_far (p := ⟨w.heap.size + 2, 2, none⟩) n1_.out (by dsimp only; omega) _) 0 _ rfl) 1 _ rfl) 2 _ rfl) Tryd.underlying46 rfl (by kernel_rfl)) rfl ?_
  exact ⟨_, rfl, Kd.S_mono (Kd.S_far (Kd.S_far (Kd.S_far (Kd.S_far (HO.out) (fun k_ hk_ => by dsimp only; have h_ := hk_; omega) _) (fun k_ hk_ => by dsimp only; have h_ := hk_; omega) _) (fun k_ hk_ => by dsimp only; have h_ := hk_; omega) _) (fun k_ hk_ => by dsimp only; have h_ := hk_; omega) _) (fun _ _ => trivial), below_set (below_set (below_set (below_set n3_.out (by omega)) (by omega)) (by omega)) (by omega)⟩
set_option maxHeartbeats 8000000 in
set_option maxRecDepth 100000 in
theorem laws_toGateS.calls (k : Nat) : ∀ (A0 : Option Addr) (c0 : Nat) (l0 : List S41) (r : List S46) (w : World) (hr0 : Kd.C k41 w A0 l0.length l0) (hc0 : l0.length ≤ c0) (h : laws_toGateS.f k l0 = some r),
    Calls Tryd.prog 51 #[.slice A0 l0.length c0] w fun e w' => ∃ v : Value, e = .returned v ∧ Kd.S kG 46 w' w.heap.size (fun _ => True) v r ∧ Below w.heap.size w w' := by
  induction k using Nat.strongRecOn with
  | _ k ih =>
  have ihG : ∀ m, m < k → ∀ (a0_0 : Int) (a0_1 : Int) (A0_2 : Option Addr) (c0_2 : Nat) (l0_2 : List S41) (r1 : Int) (r2 : Int) (r3 : List S46) (w : World) (hr0_2 : Kd.C k41 w A0_2 l0_2.length l0_2) (hc0_2 : l0_2.length ≤ c0_2) (h : laws_toGate.f m a0_0 a0_1 l0_2 = some (r1, r2, r3)), Calls Tryd.prog 21 #[.agg #[.int .i64 a0_0, .int .i64 a0_1, .slice A0_2 l0_2.length c0_2]] w fun e w' => ∃ v2_ : Value, e = .returned (.agg #[.int .i64 r1, .int .i64 r2, v2_]) ∧ Kd.S kG 46 w' w.heap.size (fun _ => True) v2_ r3 ∧ Below w.heap.size w w' := by
    intro m hm
    cases m with
    | zero => intro a0_0 a0_1 A0_2 c0_2 l0_2 r1 r2 r3 w hr0_2 hc0_2 h; exact absurd h (by simp [laws_toGate.f])
    | succ m => intro a0_0 a0_1 A0_2 c0_2 l0_2 r1 r2 r3 w hr0_2 hc0_2 h; exact laws_toGate.calls_of m (ih m (by omega)) a0_0 a0_1 A0_2 c0_2 l0_2 r1 r2 r3 w hr0_2 hc0_2 h
  intro A0 c0 l0 r w hr0 hc0 h
  cases k with
  | zero => exact absurd h (by simp [laws_toGateS.f])
  | succ k =>
  simp only [laws_toGateS.f] at h
  have hu24 := Tryd.underlying41
  have hu29 := Tryd.underlying46
  have HR0 := Aside0.mk hr0
  clear hr0 hc0
  have HB := Aside0.mk (Below.refl w.heap.size w)
  clear ih
  by_cases c3 : ((l0.length : Int)).toNat ≤ 7036874417766
  · rw [if_pos c3] at h
    have HL := Aside0.mk c3
    clear c3
    have c2b0 := eq_true (show (0 : Int) ≤ (l0.length : Int) by omega)
    have c2b1 : decide (0 ≤ (l0.length : Int)) = true := decide_eq_true (by omega)
    have H' := Aside0.mk h
    clear h
    go_enter Tryd.func51, Tryd.ntmps51
    go_wp2_with (first | ((with_reducible refine gate_dst (N := 7) rfl ?_); refine Kd.S_make kG _ 46 rfl (N := 7) rfl 44 _ _ rfl (l0.length : Int) rfl rfl Tryd.underlying44 (.agg #[.int .i64 0, .int .i64 0, .slice none 0 0]) 40 info46 rfl (by decide) (by omega) z46 (ok := fun _ => True) (okp := fun _ => True) (kG_mkM (x := z46) (GS_nil _ _ _)) (fun _ hk => hk) trivial (by omega) (by have := HL.out; omega) (Below.refl _ _) (Nat.le_refl _) ?_; intro v316 w4 ho5 hb hg_ hnew_; clear hg_ hnew_; have n0_ := Aside0.mk (Kd.S_lower ho5 (below_size (by repeat (first | (with_reducible first | exact HB.out | apply below_alloc | apply pw_below_drewN | apply below_drew1) | exact HB.out)))); have n1_ := Aside0.mk (below_step (by repeat (first | (with_reducible first | exact HB.out | apply below_alloc | apply pw_below_drewN | apply below_drew1) | exact HB.out)) hb); clear HB; have HO317 := n0_; have HB := n1_; clear n0_ n1_; clear hb ho5))
    go_loopg [4] k (fun kq v4 w' => ∃ (x3 : List S46) (x4 : Int), v4 = .int .i64 x4 ∧ Aside0 (laws_toGateS.l0 kq l0 x3 x4 = some r) ∧ Aside0 (kq ≤ k) ∧ Aside0 (Kd.S kG 46 w' w.heap.size (fun _ => True) v316 x3) ∧ Aside0 (Below w.heap.size w w'))
    case atStart => exact ⟨_, (0), (by first | rfl | (simp; done)), H', ⟨Nat.le_refl _⟩, ⟨HO317.out⟩, ⟨HB.out⟩⟩
    case round =>
      clear H' HO317 HB
      obtain ⟨x3, x4, rfl, HA, HK, HO, HB⟩ := hrel
      cases gk with
      | zero => exact absurd HA.out (by simp [laws_toGateS.l0])
      | succ k1 =>
        have H := HA.out
        clear HA
        simp only [laws_toGateS.l0] at H
        by_cases c6 : x4 < (l0.length : Int)
        · rw [if_pos c6] at H
          have c6b0 : decide (x4 < (l0.length : Int)) = true := decide_eq_true c6
          by_cases c7 : 0 ≤ x4
          · rw [if_pos c7] at H
            have c7b0 : decide (0 ≤ x4) = true := decide_eq_true c7
            replace H := Option.bind_eq_some_iff.mp H
            obtain ⟨⟨b1, b2, b3⟩, At, H⟩ := H
            have A7 := Aside0.mk At
            clear At
            dsimp only at H
            by_cases c9 : x4 < (x3.length : Int)
            · rw [if_pos c9] at H
              have H' := Aside0.mk H
              clear H
              obtain ⟨ad, A2, c2, e318, hx0, hx1, hx2, hl2, hi2⟩ := at_T41 HR0.out x4 c7 c6
              cases e318
              replace hx0 := (HB.out.cell (World.block_lt_of_cell? w _ hx0)).trans hx0
              replace hx1 := (HB.out.cell (World.block_lt_of_cell? w _ hx1)).trans hx1
              replace hx2 := (HB.out.cell (World.block_lt_of_cell? w _ hx2)).trans hx2
              have HI := Aside0.mk hi2
              have HL2 := Aside0.mk hl2
              clear hi2 hl2
              obtain ⟨g, cg, rfl, gb, gl⟩ := (by obtain ⟨g, cg, e, h1, h2, _⟩ := Kd.S_form HO.out (by omega); exact ⟨g, cg, e, h1, h2⟩ : ∃ g cg, v316 = .slice (some ⟨g, 0, none⟩) x3.length cg ∧ w.heap.size ≤ g ∧ g < wr.heap.size)
              have hgl := Aside0.mk gl
              clear gl gb
              have p4 := c7
              have q4 := c9
              skip
              replace c7 := eq_true c7
              replace c6 := eq_true c6
              have c9b0 : decide (x4 < (x3.length : Int)) = true := decide_eq_true c9
              replace c9 := eq_true c9
              go_wp2_with (first | ((with_reducible refine gate_callee (f := 21) rfl ?_); refine goesL_ (some 20) rfl rfl Tryd.func21 (by kernel_rfl) rfl #[.agg #[.int .i64 (rd_T41 l0 x4).f0, .int .i64 (rd_T41 l0 x4).f1, .slice A2 (rd_T41 l0 x4).f2.length c2]] rfl (by (try simp only [List.map_toArray, List.map_cons, List.map_nil]); first | done | rfl) ?_; (with_reducible refine (ihG k1 (by have := HK.out; omega) (rd_T41 l0 x4).f0 (rd_T41 l0 x4).f1 _ _ (rd_T41 l0 x4).f2 b1 b2 b3 _ ?side1 ?side2 A7.out).mono ?_); (case side1 => exact Kd.C_below HI.out (by repeat (first | (with_reducible first | exact HB.out | apply below_alloc | apply pw_below_drewN | apply below_drew1) | exact HB.out))); (case side2 => exact HL2.out); rintro e w5 ⟨v, rfl, ho, hb⟩; refine ⟨_, rfl, ?_⟩; have q1_ : Aside0 (Kd.S kG 46 w5 w.heap.size (fun k_ => True ∧ ¬ wr.heap.size ≤ k_) (.slice (some ⟨g, 0, none⟩) x3.length cg) x3) := ⟨Kd.S_mono (Kd.S_old (by (with_reducible repeat (first | apply Kd.S_alloc | apply Kd.S_drewN | apply Kd.S_drew)); exact HO.out) hb) (fun k_ hk_ => ⟨trivial, Nat.not_le.2 hk_.2⟩)⟩; have q3_ := Aside0.mk (below_step (by repeat (first | (with_reducible first | exact HB.out | apply below_alloc | apply pw_below_drewN | apply below_drew1) | exact HB.out)) hb); have q2_ := Aside0.mk (Kd.S_lower (base' := w.heap.size) (Kd.S_mono (Kd.S_bound ho) (ok' := fun k_ => wr.heap.size ≤ k_) (fun k_ hk_ => by have h_ := hk_.2.1; (try simp at h_); omega)) (below_size (by repeat (first | (with_reducible first | exact HB.out | apply below_alloc | apply pw_below_drewN | apply below_drew1) | exact HB.out)))); clear HO HB; have HO := q1_; have HB := q3_; clear q1_ q3_; obtain ⟨Az, cz, ez⟩ := Kd.S_slice q2_.out; subst ez; clear ho hb; obtain ⟨oki, ce, hcl, _, _, _, _, hH⟩ := Kd.S_elem HO.out z46 x4 p4 q4; have HH := Aside0.mk (Kd.H_more (okg := fun k_ => wr.heap.size ≤ k_) hH (fun _ _ => trivial)); replace hcl := Aside0.mk hcl; clear hH HO) | ((with_reducible refine gate_store (t := 46) (p := 21) rfl ?_); refine Kd.H_store kG _ rfl rfl 46 _ _ rfl 46 (g := g) x4 0 x3 (⟨b1, b2, b3⟩ : S46) (.agg #[.int .i64 b1, .int .i64 b2, .slice Az b3.length cz]) [.int .i64 b1, .int .i64 b2, .slice Az b3.length cz] ce (fun _ => True) (fun k_ => oki k_ ∨ wr.heap.size ≤ k_) (fun k_ => wr.heap.size ≤ k_) rfl ?hoff rfl rfl rfl ?h1 HH.out p4 q4 ?hj ?hM (fun k_ hk_ => Or.inr hk_) HB.out ?_; (case hoff => rfl); (case h1 => simp [Value.oneCell']); (case hj => exact Nat.le_refl 3); (case hM => rw [List.drop_eq_nil_of_le (by have hcl3 : ce.length = 3 := hcl.out; simp; omega), List.append_nil]; exact kG_mkM (x := (⟨b1, b2, b3⟩ : S46)) q2_.out); intro w6 ho6 hb6 hg6; clear HH HB hg6; have HO := Aside0.mk ho6; have HB := Aside0.mk hb6; clear ho6 hb6))
              go_roundg k1
              case measure => have := HK.out; omega
              case rel => exact ⟨_, (wrap64 (x4 + 1)), (by first | rfl | (simp; done) | (simp [*]; done)), H', ⟨by have := HK.out; omega⟩, ⟨HO.out⟩, ⟨HB.out⟩⟩
            · rw [if_neg c9] at H
              exact absurd H (by simp)
          · rw [if_neg c7] at H
            exact absurd H (by simp)
        · rw [if_neg c6] at H
          have c6b0 : decide (x4 < (l0.length : Int)) = false := decide_eq_false c6
          clear c6
          obtain rfl := Option.some.inj H
          go_wp2
          go_ret
          exact ⟨_, rfl, HO.out, HB.out⟩
  · rw [if_neg c3] at h
    exact absurd h (by simp)

end Go.Proofs.YtijmdlhcidjpmaaDoor.P

namespace Go.Proofs.YtijmdlhcidjpmaaDoor.P
open Go.RowKit Go.Proofs.YtijmdlhcidjpmaaDoorW.PrintWords Go.Proofs.YtijmdlhcidjpmaaDoorW.PrintLast Go.Proofs.YtijmdlhcidjpmaaDoorW.PrintMore
attribute [local go_sem] max2_int min2_int max_two min_two max_three min_three max_four min_four
set_option linter.unusedVariables false
set_option linter.unusedSimpArgs false

/-! ### laws_toGate: function 21 (by hand) -/
theorem laws_toGate.calls (k : Nat) (a0_0 : Int) (a0_1 : Int) (A0_2 : Option Addr) (c0_2 : Nat) (l0_2 : List S41) (r1 : Int) (r2 : Int) (r3 : List S46) (w : World) (hr0_2 : Kd.C k41 w A0_2 l0_2.length l0_2) (hc0_2 : l0_2.length ≤ c0_2) (h : laws_toGate.f k a0_0 a0_1 l0_2 = some (r1, r2, r3)) :
    Calls Tryd.prog 21 #[.agg #[.int .i64 a0_0, .int .i64 a0_1, .slice A0_2 l0_2.length c0_2]] w fun e w' => ∃ v2_ : Value, e = .returned (.agg #[.int .i64 r1, .int .i64 r2, v2_]) ∧ Kd.S kG 46 w' w.heap.size (fun _ => True) v2_ r3 ∧ Below w.heap.size w w' := by
  cases k with
  | zero => exact absurd h (by simp [laws_toGate.f])
  | succ k => exact laws_toGate.calls_of k (laws_toGateS.calls k) a0_0 a0_1 A0_2 c0_2 l0_2 r1 r2 r3 w hr0_2 hc0_2 h

end Go.Proofs.YtijmdlhcidjpmaaDoor.P
