/- For all arguments the program's TidyGate and the reference's answer alike, the argument stays, and the result is memory of its own. This text: part 1 of what it rests on: functions of the translation as plain Lean functions, and that the machine's calls come to their answers. -/
import Derived.ArgAppend
import Derived.Below
import Derived.BigQuiet
import Derived.DataShut
import Derived.Deep.AppendLies
import Derived.Deep.CutBlock
import Derived.Deep.DeepCutAuto
import Derived.Deep.Draws
import Derived.Deep.LoopGhost
import Derived.Deep.OwnRows
import Derived.Deep.QuietTactic
import Derived.Deep.RegionHeld3
import Derived.KernelRfl
import Derived.Laws.BitsLemmas
import Derived.Laws.BytesArg
import Derived.Laws.IdiomCopy
import Derived.Laws.MakeOwn
import Derived.Laws.OwnMore
import Derived.Laws.Rows
import Derived.Laws.Slices
import Derived.Lib.AppendStr
import Derived.Lib.ConvBytes
import Derived.Maps.AppendAt
import Derived.OrdersHeld
import Derived.OwnWalk
import Derived.RowKit
import Derived.RowKit3
import Derived.Shelf.Abstract
import Derived.Tactics
import Derived.Test.YtjnobnmjhpmpfaaCFnExactTidyGateWApartw
import Derived.Test.YtjnobnmjhpmpfaaCFnExactTidyGateWArrw
import Derived.Test.YtjnobnmjhpmpfaaCFnExactTidyGateWAtw
import Derived.Test.YtjnobnmjhpmpfaaCFnExactTidyGateWEqStructw
import Derived.Test.YtjnobnmjhpmpfaaCFnExactTidyGateWFootNew
import Derived.Test.YtjnobnmjhpmpfaaCFnExactTidyGateWFootw
import Derived.Test.YtjnobnmjhpmpfaaCFnExactTidyGateWFourw
import Derived.Test.YtjnobnmjhpmpfaaCFnExactTidyGateWGuardw
import Derived.Test.YtjnobnmjhpmpfaaCFnExactTidyGateWInvWordsw
import Derived.Test.YtjnobnmjhpmpfaaCFnExactTidyGateWInvw
import Derived.Test.YtjnobnmjhpmpfaaCFnExactTidyGateWKeptw
import Derived.Test.YtjnobnmjhpmpfaaCFnExactTidyGateWLastw
import Derived.Test.YtjnobnmjhpmpfaaCFnExactTidyGateWMorew
import Derived.Test.YtjnobnmjhpmpfaaCFnExactTidyGateWNEvw
import Derived.Test.YtjnobnmjhpmpfaaCFnExactTidyGateWNw
import Derived.Test.YtjnobnmjhpmpfaaCFnExactTidyGateWQPutw
import Derived.Test.YtjnobnmjhpmpfaaCFnExactTidyGateWRepsOnew
import Derived.Test.YtjnobnmjhpmpfaaCFnExactTidyGateWSharew
import Derived.Test.YtjnobnmjhpmpfaaCFnExactTidyGateWTabw
import Derived.Test.YtjnobnmjhpmpfaaCFnExactTidyGateWWordsw
import Derived.Test.YtjnobnmjhpmpfaaCFnExactTidyGateWZerosw
import Derived.Test.YtjnobnmjhpmpfaaProg
import Derived.WalkKit
import Derived.WideLaws
namespace Go.Proofs.Ytjnobnmjhpmpfaa.P
open Go.RowKit Go.Proofs.YtjnobnmjhpmpfaaW.PrintWords Go.Proofs.YtjnobnmjhpmpfaaW.PrintLast Go.Proofs.YtjnobnmjhpmpfaaW.PrintMore
attribute [local go_sem] max2_int min2_int max_two min_two max_three min_three max_four min_four
set_option linter.unusedVariables false
set_option linter.unusedSimpArgs false

def errW : Option Int → Value
  | none => .nilIface
  | some c => .iface 0 (.int .i64 c)
theorem errW_none : errW none = .nilIface := rfl
theorem errW_some (c : Int) : errW (some c) = .iface 0 (.int .i64 c) := rfl

theorem info29 : (Try.prog.info? 29).map (fun i => (i.zero, i.size, i.bytes)) = some (some (.agg #[(.int .i64 0), (.int .i64 0), (.slice none 0 0)]), 3, 40) := by kernel_rfl
/-! #### struct type 24, nested in itself -/
structure S24 where
  f0 : Int
  f1 : Int
  f2 : (List S24)
def z24 : S24 := ⟨(0 : Int), (0 : Int), ([] : List S24)⟩
def F24 (d : Kd S24) : Kd S24 := Kd.iso (Kd.pair (Kd.int .i64) (Kd.pair (Kd.int .i64) (Kd.slice 24 d))) (fun x : S24 => (x.f0, x.f1, x.f2))
theorem mono24 : Kd.Mono F24 := Kd.mono_iso _ (Kd.mono_pair (Kd.mono_const _) (Kd.mono_pair (Kd.mono_const _) (Kd.mono_slice 24 Kd.mono_id)))
theorem sub24 : Kd.Sub F24 [24] := Kd.sub_iso _ (Kd.sub_pair (Kd.sub_const _ (by decide)) (Kd.sub_pair (Kd.sub_const _ (by decide)) (Kd.sub_slice 24 (by decide) Kd.sub_id)))
theorem sz24 : ∀ n, (Kd.upto F24 3 [24] n).sz = 3 := Kd.upto_sz (fun _ => rfl)
def k24 : Kd S24 := Kd.fix F24 3 [24] sz24 (Kd.upto_E sub24)
theorem k24_open {w : World} {x : S24} {cs : List Value} (h : k24.K w x cs) : ∃ A2 c2, cs = [.int .i64 x.f0, .int .i64 x.f1, .slice A2 x.f2.length c2] ∧ x.f2.length ≤ c2 ∧ k24.C w A2 x.f2.length x.f2 := by
  obtain ⟨n, h⟩ := h
  cases n with
  | zero => exact h.elim
  | succ n =>
    obtain ⟨_, _, rfl, rfl, ⟨_, _, rfl, rfl, ⟨A2, c2, rfl, l2, g2⟩⟩⟩ := h
    exact ⟨A2, c2, rfl, l2, Kd.fix_C g2⟩
theorem k24_mk (w : World) (x : S24) {A2 : Option Addr} {c2 : Nat} (l2 : x.f2.length ≤ c2) (g2 : k24.C w A2 x.f2.length x.f2) : k24.K w x [.int .i64 x.f0, .int .i64 x.f1, .slice A2 x.f2.length c2] := by
  obtain ⟨n2, q2⟩ := Kd.fix_C_back mono24 g2
  have r2 := Kd.upto_C_le mono24 sz24 (show n2 ≤ n2 by omega) q2
  exact ⟨n2 + 1, ⟨[.int .i64 x.f0], [.int .i64 x.f1, .slice A2 x.f2.length c2], rfl, rfl, ⟨[.int .i64 x.f1], [.slice A2 x.f2.length c2], rfl, rfl, ⟨A2, c2, rfl, l2, r2⟩⟩⟩⟩
def rd_T24 (xs : List S24) (i : Int) : S24 := xs.getD i.toNat z24
theorem at_T24 {w : World} {A : Option Addr} {n : Nat} {xs : List S24} (h : Kd.C k24 w A n xs) (i : Int) (h0 : 0 ≤ i) (h1 : i < n) : ∃ ad A2 c2, A = some ad ∧ w.cell? (ad.add (i.toNat * 3)) = some (.int .i64 (rd_T24 xs i).f0) ∧ w.cell? ⟨(ad.add (i.toNat * 3)).block, (ad.add (i.toNat * 3)).off + 1, none⟩ = some (.int .i64 (rd_T24 xs i).f1) ∧ w.cell? ⟨(ad.add (i.toNat * 3)).block, (ad.add (i.toNat * 3)).off + 2, none⟩ = some (.slice A2 (rd_T24 xs i).f2.length c2) ∧ (rd_T24 xs i).f2.length ≤ c2 ∧ k24.C w A2 (rd_T24 xs i).f2.length (rd_T24 xs i).f2 := by
  obtain ⟨ad, c, e, _, hK, hc0⟩ := Kd.C_get h z24 i h0 h1
  have hc : ∀ j u, c[j]? = some u → w.cell? (ad.add (i.toNat * 3 + j)) = some u := hc0
  obtain ⟨A2, c2, rfl, l2, g2⟩ := k24_open hK
  exact ⟨ad, A2, c2, e, hc 0 _ rfl, by rw [← add_field _ _ 1 (by omega)]; exact hc 1 _ rfl, by rw [← add_field _ _ 2 (by omega)]; exact hc 2 _ rfl, l2, g2⟩

/-! #### struct type 29, nested in itself -/
structure S29 where
  f0 : Int
  f1 : Int
  f2 : (List S29)
def z29 : S29 := ⟨(0 : Int), (0 : Int), ([] : List S29)⟩
def F29 (d : Kd S29) : Kd S29 := Kd.iso (Kd.pair (Kd.int .i64) (Kd.pair (Kd.int .i64) (Kd.slice 29 d))) (fun x : S29 => (x.f0, x.f1, x.f2))
theorem mono29 : Kd.Mono F29 := Kd.mono_iso _ (Kd.mono_pair (Kd.mono_const _) (Kd.mono_pair (Kd.mono_const _) (Kd.mono_slice 29 Kd.mono_id)))
theorem sub29 : Kd.Sub F29 [29] := Kd.sub_iso _ (Kd.sub_pair (Kd.sub_const _ (by decide)) (Kd.sub_pair (Kd.sub_const _ (by decide)) (Kd.sub_slice 29 (by decide) Kd.sub_id)))
theorem sz29 : ∀ n, (Kd.upto F29 3 [29] n).sz = 3 := Kd.upto_sz (fun _ => rfl)
def k29 : Kd S29 := Kd.fix F29 3 [29] sz29 (Kd.upto_E sub29)
theorem k29_open {w : World} {x : S29} {cs : List Value} (h : k29.K w x cs) : ∃ A2 c2, cs = [.int .i64 x.f0, .int .i64 x.f1, .slice A2 x.f2.length c2] ∧ x.f2.length ≤ c2 ∧ k29.C w A2 x.f2.length x.f2 := by
  obtain ⟨n, h⟩ := h
  cases n with
  | zero => exact h.elim
  | succ n =>
    obtain ⟨_, _, rfl, rfl, ⟨_, _, rfl, rfl, ⟨A2, c2, rfl, l2, g2⟩⟩⟩ := h
    exact ⟨A2, c2, rfl, l2, Kd.fix_C g2⟩
theorem k29_mk (w : World) (x : S29) {A2 : Option Addr} {c2 : Nat} (l2 : x.f2.length ≤ c2) (g2 : k29.C w A2 x.f2.length x.f2) : k29.K w x [.int .i64 x.f0, .int .i64 x.f1, .slice A2 x.f2.length c2] := by
  obtain ⟨n2, q2⟩ := Kd.fix_C_back mono29 g2
  have r2 := Kd.upto_C_le mono29 sz29 (show n2 ≤ n2 by omega) q2
  exact ⟨n2 + 1, ⟨[.int .i64 x.f0], [.int .i64 x.f1, .slice A2 x.f2.length c2], rfl, rfl, ⟨[.int .i64 x.f1], [.slice A2 x.f2.length c2], rfl, rfl, ⟨A2, c2, rfl, l2, r2⟩⟩⟩⟩
def rd_T29 (xs : List S29) (i : Int) : S29 := xs.getD i.toNat z29
theorem at_T29 {w : World} {A : Option Addr} {n : Nat} {xs : List S29} (h : Kd.C k29 w A n xs) (i : Int) (h0 : 0 ≤ i) (h1 : i < n) : ∃ ad A2 c2, A = some ad ∧ w.cell? (ad.add (i.toNat * 3)) = some (.int .i64 (rd_T29 xs i).f0) ∧ w.cell? ⟨(ad.add (i.toNat * 3)).block, (ad.add (i.toNat * 3)).off + 1, none⟩ = some (.int .i64 (rd_T29 xs i).f1) ∧ w.cell? ⟨(ad.add (i.toNat * 3)).block, (ad.add (i.toNat * 3)).off + 2, none⟩ = some (.slice A2 (rd_T29 xs i).f2.length c2) ∧ (rd_T29 xs i).f2.length ≤ c2 ∧ k29.C w A2 (rd_T29 xs i).f2.length (rd_T29 xs i).f2 := by
  obtain ⟨ad, c, e, _, hK, hc0⟩ := Kd.C_get h z29 i h0 h1
  have hc : ∀ j u, c[j]? = some u → w.cell? (ad.add (i.toNat * 3 + j)) = some u := hc0
  obtain ⟨A2, c2, rfl, l2, g2⟩ := k29_open hK
  exact ⟨ad, A2, c2, e, hc 0 _ rfl, by rw [← add_field _ _ 1 (by omega)]; exact hc 1 _ rfl, by rw [← add_field _ _ 2 (by omega)]; exact hc 2 _ rfl, l2, g2⟩

/-! #### struct type 53 -/
structure S53 where
  f0 : Int
  f1 : (List (List Int))
/-! #### struct type 50 -/
structure S50 where
  f0 : Int
  f1 : (List (List Int))
end Go.Proofs.Ytjnobnmjhpmpfaa.P

namespace Go.Proofs.Ytjnobnmjhpmpfaa.P
open Go.RowKit Go.Proofs.YtjnobnmjhpmpfaaW.PrintWords Go.Proofs.YtjnobnmjhpmpfaaW.PrintLast Go.Proofs.YtjnobnmjhpmpfaaW.PrintMore
attribute [local go_sem] max2_int min2_int max_two min_two max_three min_three max_four min_four
set_option linter.unusedVariables false
set_option linter.unusedSimpArgs false

/-- A matrix's rows, written: v the row of rows, vs its cells (each row's value); each row lies in a block of its own, all of them from lo on, below hi. -/
structure Mx (W : World) (base lo hi : Nat) (v : Value) (vs : List Value) (rows : List (List Int)) : Prop where
  own : W.ownsRow base 39 1 v rows.length vs
  row : ∀ (i : Nat) (u : Value) (r : List Int), vs[i]? = some u → rows[i]? = some r → Kd.R (Kd.int .i64) 2 W base (fun k => some k = u.ownBlock ∧ lo ≤ k ∧ k < hi) u r
  apart : ∀ (i j : Nat) (u u' : Value) (k : Nat), vs[i]? = some u → vs[j]? = some u' → u.ownBlock = some k → u'.ownBlock = some k → i = j
  outer : ∀ k, v.ownBlock = some k → lo ≤ k ∧ k < hi
namespace Mx
section
variable {W W1 : World} {base lo hi g n cap : Nat} {v u : Value} {vs : List Value} {rows : List (List Int)} {r r' : List Int}
theorem len (h : Mx W base lo hi v vs rows) : vs.length = rows.length := by have := h.own.1; omega
theorem step (h : Mx W base lo hi v vs rows) (hm : ∀ k, lo ≤ k → k < hi → k < W.heap.size → W1.heap[k]? = W.heap[k]?) : Mx W1 base lo hi v vs rows :=
  ⟨own_move h.own (fun k hk => hm k (h.outer k hk).1 (h.outer k hk).2 (own_lt h.own k hk)), fun i u r hu hr => Kd.R_step (h.row i u r hu hr) (fun k hk hlt => hm k hk.2.1 hk.2.2 hlt), h.apart, h.outer⟩
theorem below (h : Mx W base lo hi v vs rows) (hb : Below W.heap.size W W1) : Mx W1 base lo hi v vs rows := h.step (fun k _ _ hlt => hb.block k hlt)
theorem alloc (h : Mx W base lo hi v vs rows) (o : Obj) : Mx (W.alloc o) base lo hi v vs rows := h.below (below_alloc (Below.refl _ _) o)
theorem drew (h : Mx W base lo hi v vs rows) : Mx W.drew base lo hi v vs rows := h.below (below_drew (Below.refl _ _))
theorem drewN (h : Mx W base lo hi v vs rows) (m : Nat) : Mx (W.drewN m) base lo hi v vs rows := h.below (pw_below_drewN (Below.refl _ _) m)
theorem kept {S : Nat → Prop} (h : Mx W base lo hi v vs rows) (hk : Kept W W1 S) (hS : ∀ k, lo ≤ k → k < hi → ¬ S k) : Mx W1 base lo hi v vs rows := h.step (fun k h1 h2 hlt => hk.2 k hlt (hS k h1 h2))
theorem grown {b : Nat} (h : Mx W base lo hi v vs rows) (hg : W.grownBy W1 (some b)) (hp : b < lo ∨ hi ≤ b) : Mx W1 base lo hi v vs rows := h.step (fun k h1 h2 hlt => hg.block k hlt (fun e => by injection e with e; omega))
theorem grown' {w : Value} (h : Mx W base lo hi v vs rows) (hg : W.grownBy W1 w.ownBlock) (hp : ∀ b, w.ownBlock = some b → b < lo ∨ hi ≤ b) : Mx W1 base lo hi v vs rows := h.step (fun k h1 h2 hlt => hg.block k hlt (fun e => by have := hp k e.symm; omega))
theorem form (h : Mx W base lo hi v vs rows) (hp : 0 < rows.length) : ∃ g cap, v = .slice (some ⟨g, 0, none⟩) rows.length cap ∧ lo ≤ g ∧ g < hi ∧ base ≤ g ∧ g < W.heap.size := by
  obtain ⟨g, cap, he, hb, hl⟩ := h.own.form hp
  subst he
  have := h.outer g (by simp [Value.ownBlock])
  exact ⟨g, cap, rfl, this.1, this.2, hb, hl⟩
theorem slice (h : Mx W base lo hi v vs rows) : ∃ A c, v = .slice A rows.length c ∧ rows.length ≤ c := by
  rcases h.own.2 with ⟨rfl, hn⟩ | ⟨g, c, cur, rfl, _, _, hc, _⟩
  · exact ⟨none, 0, by rw [hn], by omega⟩
  · exact ⟨_, c, rfl, hc⟩
theorem count {A : Option Addr} (h : Mx W base lo hi (.slice A n cap) vs rows) : n = rows.length ∧ n ≤ cap := by
  obtain ⟨A', c, e, hc⟩ := h.slice
  injection e with _ h2 h3
  exact ⟨h2, by omega⟩
theorem cell (h : Mx W base lo hi (.slice (some ⟨g, 0, none⟩) n cap) vs rows) {i : Nat} (hu : vs[i]? = some u) : W.cell? ⟨g, i, none⟩ = some u ∧ W.frozen? ⟨g, i, none⟩ = false := by
  have hc := h.own.cells (g := g) (by simp [Value.ownBlock]) i u hu
  rw [add_plain] at hc
  refine ⟨hc, ?_⟩
  obtain ⟨cells, hb⟩ := own_typed h.own g (by simp [Value.ownBlock])
  exact blk_frozen hb i
/-- A row has been written, nothing else. -/
theorem put {P : Nat → Prop} (h : Mx W base lo hi v vs rows) {i : Nat} (hu : vs[i]? = some u) (hr : rows[i]? = some r) (hR : Kd.R (Kd.int .i64) 2 W1 base P u r') (hk : Kept W W1 (fun k => some k = u.ownBlock ∧ lo ≤ k ∧ k < hi)) : Mx W1 base lo hi v vs (rows.set i r') := by
  have hl := h.len
  have ho := h.row i u r hu hr
  refine ⟨?_, fun j u' q hu' hq => ?_, h.apart, h.outer⟩
  · rw [List.length_set]
    refine own_move h.own (fun k hk' => hk.2 k (own_lt h.own k hk') (fun h2 => ?_))
    obtain ⟨c1, e1⟩ := own_typed h.own k hk'
    obtain ⟨_, ht⟩ := Kd.R_own ho
    obtain ⟨c2, e2⟩ := own_typed ht k h2.1.symm
    rw [e1] at e2
    injection e2 with e2
    injection e2 with _ e2
    exact absurd e2 (by decide)
  · by_cases hij : j = i
    · subst hij
      rw [hu] at hu'
      obtain rfl := Option.some.inj hu'
      rw [List.getElem?_set_self (List.getElem?_eq_some_iff.1 hr).1] at hq
      obtain rfl := Option.some.inj hq
      refine Kd.R_mono (Kd.R_tight rfl hR) (fun k hk' => ⟨hk', ?_⟩)
      exact (ho.1 k hk'.symm).2
    · rw [List.getElem?_set_ne (Ne.symm hij)] at hq
      refine Kd.R_step (h.row j u' q hu' hq) (fun k hk' hlt => hk.2 k hlt (fun h2 => hij ?_))
      exact h.apart j i u' u k hu' hu hk'.1.symm h2.1.symm
theorem take {A : Option Addr} (h : Mx W base lo hi (.slice A n cap) vs rows) {m : Nat} (hm : m ≤ rows.length) : Mx W base lo hi (.slice A m cap) (vs.take m) (rows.take m) := by
  obtain rfl := h.count.1
  refine ⟨?_, fun i u r hu hr => ?_, fun i j u u' k hu hu' => ?_, fun k hk => h.outer k ?_⟩
  · have := own_take h.own hm
    rw [Nat.mul_one] at this
    rw [List.length_take, Nat.min_eq_left hm]
    exact this
  · rw [List.getElem?_take] at hu hr
    split at hu
    · rename_i hi'
      rw [if_pos hi'] at hr
      exact h.row i u r hu hr
    · cases hu
  · rw [List.getElem?_take] at hu hu'
    split at hu
    · split at hu'
      · exact h.apart i j u u' k hu hu'
      · cases hu'
    · cases hu
  · cases A with
    | none => simp [Value.ownBlock] at hk
    | some a => simpa [Value.ownBlock] using hk
end
end Mx
/-- What a walk over a matrix that the call made knows of the world: its rows in [lo, hi), other blocks as they are told, the elder world below. -/
structure Mw (w W : World) (lo hi top : Nat) (bx : List (Nat × Obj)) (v : Value) (vs : List Value) (rows : List (List Int)) : Prop where
  mx : Mx W w.heap.size lo hi v vs rows
  bx : ∀ b, b ∈ bx → W.heap[b.1]? = some b.2 ∧ (b.1 < lo ∨ hi ≤ b.1) ∧ b.1 < top
  be : Below w.heap.size w W
  l0 : w.heap.size ≤ lo
  h0 : hi ≤ top
  t0 : top ≤ W.heap.size
namespace Mw
section
variable {w W W1 : World} {lo hi top g n cap : Nat} {bx : List (Nat × Obj)} {v u : Value} {vs : List Value} {rows : List (List Int)} {r r' : List Int}
theorem below (h : Mw w W lo hi top bx v vs rows) (hb : Below W.heap.size W W1) : Mw w W1 lo hi top bx v vs rows :=
  ⟨h.mx.below hb, fun b hm => ⟨blk_below (h.bx b hm).1 hb, (h.bx b hm).2⟩, below_step h.be hb, h.l0, h.h0, Nat.le_trans h.t0 hb.size⟩
theorem drew (h : Mw w W lo hi top bx v vs rows) : Mw w W.drew lo hi top bx v vs rows := h.below (below_drew (Below.refl _ _))
theorem drewN (h : Mw w W lo hi top bx v vs rows) (m : Nat) : Mw w (W.drewN m) lo hi top bx v vs rows := h.below (pw_below_drewN (Below.refl _ _) m)
theorem alloc (h : Mw w W lo hi top bx v vs rows) (o : Obj) : Mw w (W.alloc o) lo hi top bx v vs rows := h.below (below_alloc (Below.refl _ _) o)
/-- A row has been written. -/
theorem put {P : Nat → Prop} (h : Mw w W lo hi top bx v vs rows) {i : Nat} (hu : vs[i]? = some u) (hr : rows[i]? = some r) (hR : Kd.R (Kd.int .i64) 2 W1 w.heap.size P u r') (hk : Kept W W1 (fun k => some k = u.ownBlock ∧ lo ≤ k ∧ k < hi)) (hB : Below w.heap.size w W1) : Mw w W1 lo hi top bx v vs (rows.set i r') :=
  ⟨h.mx.put hu hr hR hk, fun b hm => ⟨blk_kept (h.bx b hm).1 hk (fun hs => by have := (h.bx b hm).2.1; omega), (h.bx b hm).2⟩, hB, h.l0, h.h0, Nat.le_trans h.t0 hk.1⟩
/-- A row beyond all that is told has grown. -/
theorem grown {w1 : Value} (h : Mw w W lo hi top bx v vs rows) (hg : W.grownBy W1 w1.ownBlock) (hp : ∀ b, w1.ownBlock = some b → top ≤ b) (hB : Below w.heap.size w W1) : Mw w W1 lo hi top bx v vs rows :=
  ⟨h.mx.grown' hg (fun b hb => by have := hp b hb; have := h.h0; omega), fun b hm => ⟨blk_grown (h.bx b hm).1 hg (fun e => by have := hp b.1 e.symm; have := (h.bx b hm).2.2; omega), (h.bx b hm).2⟩, hB, h.l0, h.h0, Nat.le_trans h.t0 hg.size⟩
end
end Mw
end Go.Proofs.Ytjnobnmjhpmpfaa.P

namespace Go.Proofs.Ytjnobnmjhpmpfaa.P
open Go.RowKit Go.Proofs.YtjnobnmjhpmpfaaW.PrintWords Go.Proofs.YtjnobnmjhpmpfaaW.PrintLast Go.Proofs.YtjnobnmjhpmpfaaW.PrintMore
attribute [local go_sem] max2_int min2_int max_two min_two max_three min_three max_four min_four
set_option linter.unusedVariables false
set_option linter.unusedSimpArgs false

/-- Gates whose kids' rows lie apart, at every depth. -/
def sliceS {α : Type} (e : Nat) (d : Kd α) : Kd (List α) where
  sz := 1
  E := e :: d.E
  K := (Kd.slice e d).K
  M := fun w base ok xs cs => ∃ v, cs = [v] ∧ Kd.S d e w base ok v xs
  K_len := (Kd.slice e d).K_len
  K_one := (Kd.slice e d).K_one
  K_below := (Kd.slice e d).K_below
  K_of_M := by
    rintro w base ok x cs ⟨v, rfl, h⟩
    exact (Kd.slice e d).K_of_M ⟨v, rfl, Kd.S_R h⟩
  M_mono := by
    rintro w base ok ok' x cs hok ⟨v, rfl, h⟩
    exact ⟨v, rfl, Kd.S_mono h hok⟩
  M_bound := by
    rintro w base ok x cs ⟨v, rfl, h⟩
    exact ⟨v, rfl, Kd.S_bound h⟩
  M_move := by
    rintro w w1 base ok x cs hm ⟨v, rfl, h⟩
    exact ⟨v, rfl, Kd.S_move h hm⟩
  M_lower := by
    rintro w base base' ok x cs hb ⟨v, rfl, h⟩
    exact ⟨v, rfl, Kd.S_lower h hb⟩
theorem gS_imp {α : Type} {d d' : Kd α} (hs : d.sz = d'.sz) (h : ∀ w base ok x cs, d.M w base ok x cs → d'.M w base ok x cs) {e : Nat} {w : World} {base : Nat} {ok : Nat → Prop} {v : Value} {xs : List α} (hr : Kd.S d e w base ok v xs) : Kd.S d' e w base ok v xs := by
  obtain ⟨f, hr⟩ := hr
  exact ⟨f, Kd.R_imp (d := Kd.tag f d) (d' := Kd.tag f d') hs (fun w base ok x cs hp => h _ _ _ _ _ hp) hr⟩
theorem mono_sliceS {α β : Type} (e : Nat) {G : Kd α → Kd β} (hG : Kd.Mono G) : Kd.Mono (fun d => sliceS e (G d)) := by
  refine ⟨fun _ _ _ => rfl, ?_, ?_⟩
  · rintro d d' hs h w x cs ⟨A, c, rfl, hl, hr⟩
    exact ⟨A, c, rfl, hl, Kd.C_imp (hG.sz d d' hs) (hG.K d d' hs h) hr⟩
  · rintro d d' hs h w base ok x cs ⟨v, rfl, hr⟩
    exact ⟨v, rfl, gS_imp (hG.sz d d' hs) (hG.M d d' hs h) hr⟩
theorem sub_sliceS {α β : Type} {E : List Nat} (e : Nat) {G : Kd α → Kd β} (he : e ∈ E) (hG : Kd.Sub G E) : Kd.Sub (fun d => sliceS e (G d)) E := fun d h q hq => by
  rcases List.mem_cons.1 hq with rfl | hq
  · exact he
  · exact hG d h q hq
def FG (d : Kd S29) : Kd S29 := Kd.iso (Kd.pair (Kd.int .i64) (Kd.pair (Kd.int .i64) (sliceS 29 d))) (fun x : S29 => (x.f0, x.f1, x.f2))
theorem monoFG : Kd.Mono FG := Kd.mono_iso _ (Kd.mono_pair (Kd.mono_const _) (Kd.mono_pair (Kd.mono_const _) (mono_sliceS 29 Kd.mono_id)))
theorem subFG : Kd.Sub FG [29] := Kd.sub_iso _ (Kd.sub_pair (Kd.sub_const _ (by decide)) (Kd.sub_pair (Kd.sub_const _ (by decide)) (sub_sliceS 29 (by decide) Kd.sub_id)))
theorem szFG : ∀ n, (Kd.upto FG 3 [29] n).sz = 3 := Kd.upto_sz (fun _ => rfl)
def kG : Kd S29 := Kd.fix FG 3 [29] szFG (Kd.upto_E subFG)
theorem kG_K : ∀ n {w : World} {x : S29} {cs : List Value}, (Kd.upto FG 3 [29] n).K w x cs → (Kd.upto F29 3 [29] n).K w x cs
  | 0, _, _, _, h => h.elim
  | n + 1, w, x, cs, h => by
    obtain ⟨c0, c1, rfl, h0, c2, c3, rfl, h1, A, c, rfl, hl, hr⟩ := h
    exact ⟨c0, _, rfl, h0, c2, _, rfl, h1, A, c, rfl, hl, Kd.C_imp (d := Kd.upto FG 3 [29] n) (d' := Kd.upto F29 3 [29] n) (by rw [szFG n, sz29 n]) (fun _ _ _ hp => kG_K n hp) hr⟩
theorem kG_C {w : World} {A : Option Addr} {n : Nat} {xs : List S29} (h : Kd.C kG w A n xs) : Kd.C k29 w A n xs :=
  Kd.C_imp (d := kG) (d' := k29) rfl (fun w x cs ⟨n, hp⟩ => (⟨n, kG_K n hp⟩ : ∃ n, (Kd.upto F29 3 [29] n).K w x cs)) h
/-- Gates of one's own: a row of elements, each with rows of its own. -/
def GS (w : World) (base : Nat) (ok : Nat → Prop) (v : Value) (xs : List S29) : Prop := Kd.S kG 29 w base ok v xs
theorem fixG {n : Nat} {w : World} {base : Nat} {ok : Nat → Prop} {v : Value} {xs : List S29} (h : Kd.S (Kd.upto FG 3 [29] n) 29 w base ok v xs) : Kd.S kG 29 w base ok v xs :=
  gS_imp (d' := kG) (szFG n) (fun w base ok x cs hp => (⟨n, hp⟩ : ∃ n, (Kd.upto FG 3 [29] n).M w base ok x cs)) h
theorem fixG_back {w : World} {base : Nat} {ok : Nat → Prop} {v : Value} {xs : List S29} (h : Kd.S kG 29 w base ok v xs) : ∃ n, Kd.S (Kd.upto FG 3 [29] n) 29 w base ok v xs := by
  obtain ⟨f, h0, inner, ho, hr⟩ := h
  obtain ⟨N, hN⟩ := Kd.reps_bounded (R := fun n (p : S29 × Nat) c => (Kd.upto FG 3 [29] n).M w base (fun k => (ok k ∧ some k ≠ v.ownBlock) ∧ f k = p.2) p.1 c) (fun n m p c hnm hp => Kd.upto_M_le monoFG szFG hnm hp) hr
  refine ⟨N, f, h0, inner, ?_, ?_⟩
  · show w.ownsRow base 29 (Kd.upto FG 3 [29] N).sz v xs.zipIdx.length inner
    rw [szFG N]
    exact ho
  · show Reps _ (Kd.upto FG 3 [29] N).sz xs.zipIdx inner
    rw [szFG N]
    exact hN
theorem kG_openM {w : World} {base : Nat} {ok : Nat → Prop} {x : S29} {cs : List Value} (h : kG.M w base ok x cs) : ∃ v, cs = [.int .i64 x.f0, .int .i64 x.f1, v] ∧ GS w base ok v x.f2 := by
  obtain ⟨n, h⟩ := h
  cases n with
  | zero => exact h.elim
  | succ n =>
    obtain ⟨c0, c1, rfl, rfl, c2, c3, rfl, rfl, v, rfl, hr⟩ := h
    exact ⟨v, rfl, fixG hr⟩
theorem kG_mkM {w : World} {base : Nat} {ok : Nat → Prop} {x : S29} {v : Value} (h : GS w base ok v x.f2) : kG.M w base ok x [.int .i64 x.f0, .int .i64 x.f1, v] := by
  obtain ⟨n, hr⟩ := fixG_back h
  exact ⟨n + 1, [.int .i64 x.f0], [.int .i64 x.f1, v], rfl, rfl, [.int .i64 x.f1], [v], rfl, rfl, v, rfl, hr⟩
theorem GS_nil (w : World) (base : Nat) (ok : Nat → Prop) : GS w base ok (.slice none 0 0) [] := Kd.S_nil _ _ _ _ _
section
variable {e : Nat} {w w1 W W2 : World} {base base' : Nat} {ok ok' : Nat → Prop} {v : Value} {xs : List S29}
theorem Kd.G_lower (h : Kd.S kG e w base ok v xs) (hb : base' ≤ base) : Kd.S kG e w base' ok v xs := Kd.S_lower h hb
theorem Kd.G_mono (h : Kd.S kG e w base ok v xs) (hok : ∀ k, ok k → ok' k) : Kd.S kG e w base ok' v xs := Kd.S_mono h hok
theorem Kd.G_bound (h : Kd.S kG e w base ok v xs) : Kd.S kG e w base (fun k => ok k ∧ base ≤ k ∧ k < w.heap.size ∧ ∃ q, q ∈ e :: kG.E ∧ ∃ cells, w.heap[k]? = some (.cells cells q (0, 0))) v xs := Kd.S_bound h
theorem Kd.G_alloc (h : Kd.S kG e w base ok v xs) (o : Obj) : Kd.S kG e (w.alloc o) base ok v xs := Kd.S_alloc h o
theorem Kd.G_drew (h : Kd.S kG e w base ok v xs) : Kd.S kG e w.drew base ok v xs := Kd.S_drew h
theorem Kd.G_drewN (h : Kd.S kG e w base ok v xs) (m : Nat) : Kd.S kG e (w.drewN m) base ok v xs := Kd.S_drewN h m
theorem Kd.G_below (h : Kd.S kG e w base ok v xs) (hb : Below w.heap.size w w1) : Kd.S kG e w1 base ok v xs := Kd.S_below h hb
theorem Kd.G_kept {S : Nat → Prop} (h : Kd.S kG e W base ok v xs) (hk : Kept W W2 S) (hne : ∀ k, ok k → ¬ S k) : Kd.S kG e W2 base ok v xs := Kd.S_kept h hk hne
theorem Kd.G_slice (h : Kd.S kG e w base ok v xs) : ∃ A c, v = .slice A xs.length c := Kd.S_slice h
theorem Kd.G_reads' {A : Option Addr} {n c : Nat} (h : Kd.S kG e w base ok (.slice A n c) xs) : n = xs.length ∧ n ≤ c ∧ Kd.C k29 w A xs.length xs := by
  obtain ⟨h1, h2, h3⟩ := Kd.S_reads' h
  exact ⟨h1, h2, kG_C h3⟩
end

end Go.Proofs.Ytjnobnmjhpmpfaa.P

namespace Go.Proofs.Ytjnobnmjhpmpfaa.P
open Go.RowKit Go.Proofs.YtjnobnmjhpmpfaaW.PrintWords Go.Proofs.YtjnobnmjhpmpfaaW.PrintLast Go.Proofs.YtjnobnmjhpmpfaaW.PrintMore
attribute [local go_sem] max2_int min2_int max_two min_two max_three min_three max_four min_four
set_option linter.unusedVariables false
set_option linter.unusedSimpArgs false

/-! ### impl_within: function 50 -/
def impl_within.f (a0 : Int) (a1 : Int) (a2 : Int) : Option (Bool) := if a0 ≥ a1 then (some (decide (a0 ≤ a2))) else (some false)
set_option maxHeartbeats 8000000 in
set_option maxRecDepth 100000 in
theorem impl_within.calls (a0 : Int) (a1 : Int) (a2 : Int) (r : Bool) (w : World) (h : impl_within.f a0 a1 a2 = some r) :
    Calls Try.prog 50 #[.int .i64 a0, .int .i64 a1, .int .i64 a2] w fun e w' => e = .returned (.bool r) ∧ Drawn0 w w' := by
  have H : (if a0 ≥ a1 then (some (decide (a0 ≤ a2))) else (some false)) = some r := h
  clear h
  by_cases c4 : a0 ≥ a1
  · rw [if_pos c4] at H
    have c4b0 : decide (a1 ≤ a0) = true := decide_eq_true c4
    clear c4
    obtain rfl := Option.some.inj H
    go_enter Try.func50, Try.ntmps50
    go_wp2
    go_ret
    exact ⟨by first | rfl | (simp; done) | (simp [*]; done), by repeat (first | exact Drawn0.refl _ | apply Drawn0.step)⟩
  · rw [if_neg c4] at H
    have c4b0 : decide (a1 ≤ a0) = false := decide_eq_false c4
    clear c4
    obtain rfl := Option.some.inj H
    go_enter Try.func50, Try.ntmps50
    go_wp2
    go_ret
    exact ⟨by first | rfl | (simp; done) | (simp [*]; done), by repeat (first | exact Drawn0.refl _ | apply Drawn0.step)⟩

end Go.Proofs.Ytjnobnmjhpmpfaa.P

namespace Go.Proofs.Ytjnobnmjhpmpfaa.P
open Go.RowKit Go.Proofs.YtjnobnmjhpmpfaaW.PrintWords Go.Proofs.YtjnobnmjhpmpfaaW.PrintLast Go.Proofs.YtjnobnmjhpmpfaaW.PrintMore
attribute [local go_sem] max2_int min2_int max_two min_two max_three min_three max_four min_four
set_option linter.unusedVariables false
set_option linter.unusedSimpArgs false

/-! ### spec_l00In: function 61 -/
def spec_l00In.f (a0 : Int) (a1 : Int) (a2 : Int) : Option (Bool) := if a0 ≥ a1 then (some (decide (a0 ≤ a2))) else (some false)
set_option maxHeartbeats 8000000 in
set_option maxRecDepth 100000 in
theorem spec_l00In.calls (a0 : Int) (a1 : Int) (a2 : Int) (r : Bool) (w : World) (h : spec_l00In.f a0 a1 a2 = some r) :
    Calls Try.prog 61 #[.int .i64 a0, .int .i64 a1, .int .i64 a2] w fun e w' => e = .returned (.bool r) ∧ Drawn0 w w' := by
  have H : (if a0 ≥ a1 then (some (decide (a0 ≤ a2))) else (some false)) = some r := h
  clear h
  by_cases c4 : a0 ≥ a1
  · rw [if_pos c4] at H
    have c4b0 : decide (a1 ≤ a0) = true := decide_eq_true c4
    clear c4
    obtain rfl := Option.some.inj H
    go_enter Try.func61, Try.ntmps61
    go_wp2
    go_ret
    exact ⟨by first | rfl | (simp; done) | (simp [*]; done), by repeat (first | exact Drawn0.refl _ | apply Drawn0.step)⟩
  · rw [if_neg c4] at H
    have c4b0 : decide (a1 ≤ a0) = false := decide_eq_false c4
    clear c4
    obtain rfl := Option.some.inj H
    go_enter Try.func61, Try.ntmps61
    go_wp2
    go_ret
    exact ⟨by first | rfl | (simp; done) | (simp [*]; done), by repeat (first | exact Drawn0.refl _ | apply Drawn0.step)⟩

end Go.Proofs.Ytjnobnmjhpmpfaa.P

namespace Go.Proofs.Ytjnobnmjhpmpfaa.P
open Go.RowKit Go.Proofs.YtjnobnmjhpmpfaaW.PrintWords Go.Proofs.YtjnobnmjhpmpfaaW.PrintLast Go.Proofs.YtjnobnmjhpmpfaaW.PrintMore
attribute [local go_sem] max2_int min2_int max_two min_two max_three min_three max_four min_four
set_option linter.unusedVariables false
set_option linter.unusedSimpArgs false

theorem impl_within_eq (n lo hi : Int) : impl_within.f n lo hi = some (decide (lo ≤ n ∧ n ≤ hi)) := by
  unfold impl_within.f
  by_cases h : n ≥ lo
  · rw [if_pos h]; congr 1; by_cases h2 : n ≤ hi <;> simp [h, h2]
  · rw [if_neg h]; congr 1; simp; omega
theorem spec_l00In_eq (n lo hi : Int) : spec_l00In.f n lo hi = some (decide (lo ≤ n ∧ n ≤ hi)) := by
  unfold spec_l00In.f
  by_cases h : n ≥ lo
  · rw [if_pos h]; congr 1; by_cases h2 : n ≤ hi <;> simp [h, h2]
  · rw [if_neg h]; congr 1; simp; omega
end Go.Proofs.Ytjnobnmjhpmpfaa.P

namespace Go.Proofs.Ytjnobnmjhpmpfaa.P
open Go.RowKit Go.Proofs.YtjnobnmjhpmpfaaW.PrintWords Go.Proofs.YtjnobnmjhpmpfaaW.PrintLast Go.Proofs.YtjnobnmjhpmpfaaW.PrintMore
attribute [local go_sem] max2_int min2_int max_two min_two max_three min_three max_four min_four
set_option linter.unusedVariables false
set_option linter.unusedSimpArgs false

theorem wr {x : Int} (h1 : -9223372036854775808 ≤ x) (h2 : x ≤ 9223372036854775807) : wrap64 x = x := by
  unfold wrap64; omega
end Go.Proofs.Ytjnobnmjhpmpfaa.P

namespace Go.Proofs.Ytjnobnmjhpmpfaa.P
open Go.RowKit Go.Proofs.YtjnobnmjhpmpfaaW.PrintWords Go.Proofs.YtjnobnmjhpmpfaaW.PrintLast Go.Proofs.YtjnobnmjhpmpfaaW.PrintMore
attribute [local go_sem] max2_int min2_int max_two min_two max_three min_three max_four min_four
set_option linter.unusedVariables false
set_option linter.unusedSimpArgs false

/-! ### laws_markGateS: function 57 (by hand) -/
mutual
def laws_markGateS.l0 : Nat → List S29 → Int → Int → Option (Int × List S29)
  | 0, _, _, _ => none
  | k + 1, xs, m, i => if i < (xs.length : Int) then (if 0 ≤ i then ((laws_markGateS.f k (rd_T29 xs i).f2 (wrap64 (wrap64 (m + 1) + 1))).bind fun t => laws_markGateS.l0 k (xs.set i.toNat ⟨m, wrap64 (m + 1), t.2⟩) t.1 (wrap64 (i + 1))) else none) else some (m, xs)
def laws_markGateS.f : Nat → List S29 → Int → Option (Int × List S29)
  | 0, _, _ => none
  | k + 1, xs, m => laws_markGateS.l0 k xs m 0
end
theorem markG_two {w : World} {base g n cap : Nat} {ok oki : Nat → Prop} {xs : List S29} {i : Int} {u0 u1 u2 : Value} (h : Kd.H kG 29 w base ok (.slice (some ⟨g, 0, none⟩) n cap) xs i oki [u0, u1, u2]) (h0 : 0 ≤ i) (h1 : i < n) (a b : Int) :
    Kd.H kG 29 ((w.setCell ⟨g, i.toNat * 3, none⟩ (.int .i64 a)).setCell ⟨g, i.toNat * 3 + 1, none⟩ (.int .i64 b)) base ok (.slice (some ⟨g, 0, none⟩) n cap) xs i oki [.int .i64 a, .int .i64 b, u2] :=
  (Kd.H_seg h h0 h1 (seg := [.int .i64 a, .int .i64 b]) (j := 0) (by show 0 + 2 ≤ 3; omega) (fun q hq => by
    rcases List.mem_cons.1 hq with rfl | hq
    · rfl
    · rw [List.mem_singleton.1 hq]; rfl)).1
set_option maxHeartbeats 8000000 in
set_option maxRecDepth 100000 in
theorem laws_markGateS.callsM (k : Nat) : ∀ (P0_ : Nat → Prop) (u : Value) (l0 : List S29) (a1 : Int) (r1 : Int) (r2 : List S29) (w0 w : World) (hB : Below w0.heap.size w0 w) (ho0 : Kd.S kG 29 w w0.heap.size P0_ u l0) (h : laws_markGateS.f k l0 a1 = some (r1, r2)),
    Calls Try.prog 57 #[u, .int .i64 a1] w fun e w' => e = .returned (.int .i64 r1) ∧ Kd.S kG 29 w' w0.heap.size P0_ u r2 ∧ Below w0.heap.size w0 w' ∧ Kept w w' P0_ := by
  induction k using Nat.strongRecOn with
  | _ k ih =>
  intro P0_ u l0 a1 r1 r2 w0 w hB ho0 h
  cases k with
  | zero => exact absurd h (by simp [laws_markGateS.f])
  | succ k =>
  simp only [laws_markGateS.f] at h
  obtain ⟨Ao, co, rfl⟩ := Kd.S_slice ho0
  have HO := Aside0.mk ho0
  have HB := Aside0.mk hB
  have HK := Aside0.mk (Kept.refl w P0_)
  have H' := Aside0.mk h
  have IH := Aside0.mk ih
  clear ho0 hB h ih
  have hu29 := Try.underlying29
  go_enter Try.func57, Try.ntmps57
  go_wp2
  go_loopg [1, 5] k (fun kq v1 v5 w' => ∃ (x1 x5 : Int) (xs : List S29), v1 = .int .i64 x1 ∧ v5 = .int .i64 x5 ∧ Aside0 (laws_markGateS.l0 kq xs x1 x5 = some (r1, r2)) ∧ Aside0 (kq ≤ k) ∧ Aside0 (Kd.S kG 29 w' w0.heap.size P0_ (.slice Ao l0.length co) xs) ∧ Aside0 (Below w0.heap.size w0 w') ∧ Aside0 (Kept w w' P0_))
  case atStart => exact ⟨a1, 0, l0, rfl, rfl, H', ⟨Nat.le_refl _⟩, HO, HB, HK⟩
  case round =>
    clear H' HB HK HO
    obtain ⟨x1, x5, xs, rfl, rfl, HA, HK1, HO, HB, HK⟩ := hrel
    cases gk with
    | zero => exact absurd HA.out (by simp [laws_markGateS.l0])
    | succ k1 =>
      have H := HA.out
      clear HA
      simp only [laws_markGateS.l0] at H
      have hlen := (Kd.S_reads' HO.out).1
      by_cases c6 : x5 < (xs.length : Int)
      · rw [if_pos c6] at H
        have c6b0 : decide (x5 < (l0.length : Int)) = true := decide_eq_true (by omega)
        by_cases c7 : 0 ≤ x5
        · rw [if_pos c7] at H
          have c7b0 : decide (0 ≤ x5) = true := decide_eq_true c7
          replace H := Option.bind_eq_some_iff.mp H
          obtain ⟨⟨t1, t2⟩, At, H⟩ := H
          have A3 := Aside0.mk At
          have H' := Aside0.mk H
          clear At H
          obtain ⟨g, cap, eo, hg0, hg1, _⟩ := Kd.S_form HO.out (by omega)
          injection eo with ea_ en_ ec_
          subst ea_
          have hPg : P0_ g := (Kd.S_R HO.out).1 g rfl
          obtain ⟨oki, c, hcl, hM, hcc, hfr, hoki, hH⟩ := Kd.S_elem HO.out z29 x5 c7 (by omega)
          obtain ⟨v1, rfl, hR⟩ := kG_openM hM
          have hR : Kd.S kG 29 wr w0.heap.size oki v1 (rd_T29 xs x5).f2 := hR
          obtain ⟨Ae, ce, rfl⟩ := Kd.S_slice hR
          have hx0 : wr.cell? ⟨g, x5.toNat * 3, none⟩ = some (.int .i64 (rd_T29 xs x5).f0) := hcc 0 _ rfl
          have hx1 : wr.cell? ⟨g, x5.toNat * 3 + 1, none⟩ = some (.int .i64 (rd_T29 xs x5).f1) := hcc 1 _ rfl
          have hx2 : wr.cell? ⟨g, x5.toNat * 3 + 2, none⟩ = some (.slice Ae (rd_T29 xs x5).f2.length ce) := hcc 2 _ rfl
          have hf0 : wr.frozen? ⟨g, x5.toNat * 3, none⟩ = false := hfr 0
          have hf1 : wr.frozen? ⟨g, x5.toNat * 3 + 1, none⟩ = false := hfr 1
          have HR := Aside0.mk hR
          have HH := Aside0.mk (markG_two hH c7 (by omega) x1 (wrap64 (x1 + 1)))
          have HOK := Aside0.mk hoki
          have HG := Aside0.mk (And.intro hg0 hPg)
          have CI := Aside0.mk (And.intro c7 c6)
          have p6 : (x5 < (l0.length : Int)) = True := eq_true (by omega)
          have p7 := eq_true c7
          clear hR hH hoki hcc hcl hg0 hg1 en_ ec_ c6 c7 hlen hM hfr hPg
          go_wp2_with (first | (go_at_call 57; (refine (IH.out k1 (by have := HK1.out; omega) oki (.slice Ae (rd_T29 xs x5).f2.length ce) (rd_T29 xs x5).f2 (wrap64 (wrap64 (x1 + 1) + 1)) t1 t2 w0 _ ?side1 ?side2 A3.out).mono ?_); (case side1 => exact below_set (below_set HB.out HG.out.1) HG.out.1); (case side2 => exact Kd.S_far (Kd.S_far HR.out (fun k_ hk_ => (HOK.out k_ hk_).2) _) (fun k_ hk_ => (HOK.out k_ hk_).2) _); rintro e w' ⟨rfl, hr, hb, hk⟩))
          go_roundg k1
          case measure => have := HK1.out; omega
          case rel => exact ⟨t1, _, xs.set x5.toNat ⟨x1, wrap64 (x1 + 1), t2⟩, rfl, rfl, H', ⟨by have := HK1.out; omega⟩, ⟨Kd.H_back (Kd.H_kept HH.out hk (fun k_ _ hn => hn)) (kG_mkM (x := (⟨x1, wrap64 (x1 + 1), t2⟩ : S29)) hr) (fun _ h => h)⟩, ⟨hb⟩, ⟨Kept.then_ (Kept.setCell (Kept.setCell HK.out (.inl HG.out.2) _) (.inl HG.out.2) _) hk (fun k_ h_ => .inl (HOK.out k_ h_).1)⟩⟩
        · rw [if_neg c7] at H
          exact absurd H (by simp)
      · rw [if_neg c6] at H
        have c6b0 : decide (x5 < (l0.length : Int)) = false := decide_eq_false (by omega)
        clear c6 hlen
        injection H with H
        injection H with e1 e2
        subst e1 e2
        go_wp2
        go_ret
        exact ⟨rfl, HO.out, HB.out, HK.out⟩

end Go.Proofs.Ytjnobnmjhpmpfaa.P

namespace Go.Proofs.Ytjnobnmjhpmpfaa.P
open Go.RowKit Go.Proofs.YtjnobnmjhpmpfaaW.PrintWords Go.Proofs.YtjnobnmjhpmpfaaW.PrintLast Go.Proofs.YtjnobnmjhpmpfaaW.PrintMore
attribute [local go_sem] max2_int min2_int max_two min_two max_three min_three max_four min_four
set_option linter.unusedVariables false
set_option linter.unusedSimpArgs false

/-! ### laws_markGate: function 23 (by hand) -/
def laws_markGate.f (k : Nat) (a0_0 : Int) (a0_1 : Int) (l0_2 : List S29) (a1 : Int) : Option (Int × List S29) := laws_markGateS.f k l0_2 a1
set_option maxHeartbeats 8000000 in
set_option maxRecDepth 100000 in
theorem laws_markGate.callsM (k : Nat) (a0_0 : Int) (a0_1 : Int) (P0_ : Nat → Prop) (u : Value) (l0_2 : List S29) (a1 : Int) (r1 : Int) (r2 : List S29) (w0 w : World) (hB : Below w0.heap.size w0 w) (ho0 : Kd.S kG 29 w w0.heap.size P0_ u l0_2) (h : laws_markGate.f k a0_0 a0_1 l0_2 a1 = some (r1, r2)) :
    Calls Try.prog 23 #[.agg #[.int .i64 a0_0, .int .i64 a0_1, u], .int .i64 a1] w fun e w' => e = .returned (.int .i64 r1) ∧ Kd.S kG 29 w' w0.heap.size P0_ u r2 ∧ Below w0.heap.size w0 w' ∧ Kept w w' P0_ := by
  have hum := Try.underlying29
  obtain ⟨Ao, co, rfl⟩ := Kd.S_slice ho0
  have HO := Aside0.mk ho0
  have HB := Aside0.mk hB
  have A3 := Aside0.mk (show laws_markGateS.f k _ a1 = some (r1, r2) from h)
  clear ho0 hB h
  go_enter Try.func23, Try.ntmps23
  go_wp2_with (first | (go_at_call 57; (with_reducible refine (laws_markGateS.callsM k P0_ _ l0_2 a1 r1 r2 w0 _ ?side1 ?side2 A3.out).mono ?_); (case side1 => repeat (first | (with_reducible first | exact HB.out | apply below_alloc | apply pw_below_drewN | apply below_drew1) | exact HB.out)); (case side2 => (with_reducible repeat (first | apply Kd.S_alloc | apply Kd.S_drewN | apply Kd.S_drew)); exact HO.out); rintro e w' ⟨rfl, hr, hb, hk⟩))
  go_ret
  exact ⟨rfl, hr, hb, Kept.then_ (by repeat (first | exact Kept.refl _ _ | apply Kept.alloc | apply Kept.drewN | apply Kept.drew)) hk (fun _ h => .inl h)⟩

end Go.Proofs.Ytjnobnmjhpmpfaa.P

namespace Go.Proofs.Ytjnobnmjhpmpfaa.P
open Go.RowKit Go.Proofs.YtjnobnmjhpmpfaaW.PrintWords Go.Proofs.YtjnobnmjhpmpfaaW.PrintLast Go.Proofs.YtjnobnmjhpmpfaaW.PrintMore
attribute [local go_sem] max2_int min2_int max_two min_two max_three min_three max_four min_four
set_option linter.unusedVariables false
set_option linter.unusedSimpArgs false

/-! ### laws_heldGateS: function 58 -/
mutual
def laws_heldGateS.l0 : Nat → List (S29) → Int → Int → Option (Int)
  | 0, _, _, _ => none
  | k + 1, x0, x1, x5 => if x5 < (x0.length : Int) then (if 0 ≤ x5 then (if ((rd_T29 x0 x5).f0) = x1 then (if ((rd_T29 x0 x5).f1) = (wrap64 (x1 + 1)) then ((laws_heldGateS.f k ((rd_T29 x0 x5).f2) (wrap64 ((wrap64 (x1 + 1)) + 1))).bind fun t133 => (if t133 < 0 then (some (-1)) else (laws_heldGateS.l0 k x0 t133 (wrap64 (x5 + 1))))) else (some (-1))) else (some (-1))) else (none)) else (some x1)
def laws_heldGateS.f : Nat → List (S29) → Int → Option (Int)
  | 0, _, _ => none
  | k + 1, l0, a1 => laws_heldGateS.l0 k l0 a1 0
end
set_option maxHeartbeats 8000000 in
set_option maxRecDepth 100000 in
theorem laws_heldGateS.calls (k : Nat) : ∀ (A0 : Option Addr) (c0 : Nat) (l0 : List (S29)) (a1 : Int) (r : Int) (w : World) (hr0 : Kd.C k29 w A0 l0.length l0) (hc0 : l0.length ≤ c0) (h : laws_heldGateS.f k l0 a1 = some r),
    Calls Try.prog 58 #[.slice A0 l0.length c0, .int .i64 a1] w fun e w' => e = .returned (.int .i64 r) ∧ Drawn0 w w' := by
  induction k using Nat.strongRecOn with
  | _ k ih =>
  intro A0 c0 l0 a1 r w hr0 hc0 h
  cases k with
  | zero => exact absurd h (by simp [laws_heldGateS.f])
  | succ k =>
  simp only [laws_heldGateS.f] at h
  have HR0 := Aside0.mk hr0
  have HC0 := Aside0.mk hc0
  clear hr0 hc0
  have H : (laws_heldGateS.l0 k l0 a1 0) = some r := h
  clear h
  have H' := Aside0.mk H
  clear H
  go_enter Try.func58, Try.ntmps58
  go_wp2
  go_loopg [1, 5] k (fun kq v1 v5 w' => ∃ (x1_1 : Int) (x5_1 : Int), v1 = .int .i64 x1_1 ∧ v5 = .int .i64 x5_1 ∧ Aside0 (laws_heldGateS.l0 kq l0 x1_1 x5_1 = some r) ∧ Aside0 (kq ≤ k) ∧ Drawn0 w w')
  case atStart => exact ⟨(a1), (0), (by first | rfl | (simp; done) | (simp [*]; done)), (by first | rfl | (simp; done) | (simp [*]; done)), H', ⟨Nat.le_refl _⟩, by repeat (first | exact Drawn0.refl _ | apply Drawn0.step)⟩
  case round =>
    clear H'
    try clear p2
    obtain ⟨x1_1, x5_1, rfl, rfl, HA, HK1, ⟨m1, rfl⟩⟩ := hrel
    cases gk with
    | zero => exact absurd HA.out (by simp [laws_heldGateS.l0])
    | succ k1 =>
      have H := HA.out
      clear HA
      simp only [laws_heldGateS.l0] at H
      by_cases c3 : x5_1 < (l0.length : Int)
      · rw [if_pos c3] at H
        have c3b0 : decide (x5_1 < (l0.length : Int)) = true := decide_eq_true c3
        clear c3
        by_cases c4 : 0 ≤ x5_1
        · rw [if_pos c4] at H
          have c4b0 : decide (0 ≤ x5_1) = true := decide_eq_true c4
          clear c4
          by_cases c5 : ((rd_T29 l0 x5_1).f0) = x1_1
          · rw [if_pos c5] at H
            have c5b0 : (((rd_T29 l0 x5_1).f0) == x1_1) = true := beq_iff_eq.mpr c5
            have c5b1 : (((rd_T29 l0 x5_1).f0) != x1_1) = false := bne_eq_false_iff_eq.mpr c5
            clear c5
            by_cases c6 : ((rd_T29 l0 x5_1).f1) = (wrap64 (x1_1 + 1))
            · rw [if_pos c6] at H
              have c6b0 : (((rd_T29 l0 x5_1).f1) == (wrap64 (x1_1 + 1))) = true := beq_iff_eq.mpr c6
              have c6b1 : (((rd_T29 l0 x5_1).f1) != (wrap64 (x1_1 + 1))) = false := bne_eq_false_iff_eq.mpr c6
              clear c6
              replace H := Option.bind_eq_some_iff.mp H
              obtain ⟨t133, A70, H⟩ := H
              replace H : (if t133 < 0 then (some (-1)) else (laws_heldGateS.l0 k1 l0 t133 (wrap64 (x5_1 + 1)))) = some r := H
              have A7 := Aside0.mk A70
              clear A70
              by_cases c8 : t133 < 0
              · rw [if_pos c8] at H
                have c8b0 : decide (t133 < 0) = true := decide_eq_true c8
                clear c8
                obtain rfl := Option.some.inj H
                have p130 : 0 ≤ (x5_1 : Int) := of_decide_eq_true (by first | (with_reducible assumption) | assumption)
                have q130 : x5_1 < (l0.length : Int) := of_decide_eq_true (by first | (with_reducible assumption) | assumption)
                obtain ⟨ad130, A130_2, c130_2, e130, hx130_0, hx130_1, hx130_2, hl130_2, hi130_2⟩ := at_T29 HR0.out x5_1 p130 q130
                cases e130
                have HR130_2 := Aside0.mk hi130_2
                have HC130_2 := Aside0.mk hl130_2
                clear hi130_2 hl130_2
                replace p130 := eq_true p130
                replace q130 := eq_true q130
                have p131 : 0 ≤ (x5_1 : Int) := of_decide_eq_true (by first | (with_reducible assumption) | assumption)
                have q131 : x5_1 < (l0.length : Int) := of_decide_eq_true (by first | (with_reducible assumption) | assumption)
                obtain ⟨ad131, A131_2, c131_2, e131, hx131_0, hx131_1, hx131_2, hl131_2, hi131_2⟩ := at_T29 HR0.out x5_1 p131 q131
                obtain rfl : ad130 = ad131 := (by injection e131)
                have HR131_2 := Aside0.mk hi131_2
                have HC131_2 := Aside0.mk hl131_2
                clear hi131_2 hl131_2
                replace p131 := eq_true p131
                replace q131 := eq_true q131
                have ea_ := Option.some.inj (hx130_2.symm.trans hx131_2)
                injection ea_ with ea_ en_ ec_
                subst ea_
                subst ec_
                clear en_
                have p132 : 0 ≤ (x5_1 : Int) := of_decide_eq_true (by first | (with_reducible assumption) | assumption)
                have q132 : x5_1 < (l0.length : Int) := of_decide_eq_true (by first | (with_reducible assumption) | assumption)
                obtain ⟨ad132, A132_2, c132_2, e132, hx132_0, hx132_1, hx132_2, hl132_2, hi132_2⟩ := at_T29 HR0.out x5_1 p132 q132
                obtain rfl : ad130 = ad132 := (by injection e132)
                have HR132_2 := Aside0.mk hi132_2
                have HC132_2 := Aside0.mk hl132_2
                clear hi132_2 hl132_2
                replace p132 := eq_true p132
                replace q132 := eq_true q132
                have ea_ := Option.some.inj (hx130_2.symm.trans hx132_2)
                injection ea_ with ea_ en_ ec_
                subst ea_
                subst ec_
                clear en_
                go_wp2_with (first | ((with_reducible refine gate_callee (f := 58) rfl ?_); refine goesL_ (some 36) rfl rfl Try.func58 (by kernel_rfl) rfl #[.slice A130_2 ((rd_T29 l0 x5_1).f2).length c130_2, .int .i64 (wrap64 ((wrap64 (x1_1 + 1)) + 1))] rfl (by (try simp only [List.map_toArray, List.map_cons, List.map_nil]); first | done | rfl | (simp only [List.length_drop, List.length_take]; rfl)) ?_; (with_reducible refine (ih k1 (by have := HK1.out; omega) _ _ ((rd_T29 l0 x5_1).f2) (wrap64 ((wrap64 (x1_1 + 1)) + 1)) t133 _ ?side1 ?side2 A7.out).mono ?_); (case side1 => repeat (first | exact HR132_2.out | (with_reducible refine Kd.C_alloc ?_ _) | (with_reducible refine Kd.C_drewN ?_ _) | (with_reducible refine Kd.C_drew ?_))); (case side2 => exact HC132_2.out); rintro e w' ⟨rfl, ⟨nd, rfl⟩⟩; refine ⟨_, rfl, ?_⟩))
                go_ret
                exact ⟨by first | rfl | (simp; done) | (simp [*]; done), by repeat (first | exact Drawn0.refl _ | apply Drawn0.step)⟩
              · rw [if_neg c8] at H
                have c8b0 : decide (t133 < 0) = false := decide_eq_false c8
                clear c8
                have H' := Aside0.mk H
                clear H
                have p130 : 0 ≤ (x5_1 : Int) := of_decide_eq_true (by first | (with_reducible assumption) | assumption)
                have q130 : x5_1 < (l0.length : Int) := of_decide_eq_true (by first | (with_reducible assumption) | assumption)
                obtain ⟨ad130, A130_2, c130_2, e130, hx130_0, hx130_1, hx130_2, hl130_2, hi130_2⟩ := at_T29 HR0.out x5_1 p130 q130
                cases e130
                have HR130_2 := Aside0.mk hi130_2
                have HC130_2 := Aside0.mk hl130_2
                clear hi130_2 hl130_2
                replace p130 := eq_true p130
                replace q130 := eq_true q130
                have p131 : 0 ≤ (x5_1 : Int) := of_decide_eq_true (by first | (with_reducible assumption) | assumption)
                have q131 : x5_1 < (l0.length : Int) := of_decide_eq_true (by first | (with_reducible assumption) | assumption)
                obtain ⟨ad131, A131_2, c131_2, e131, hx131_0, hx131_1, hx131_2, hl131_2, hi131_2⟩ := at_T29 HR0.out x5_1 p131 q131
                obtain rfl : ad130 = ad131 := (by injection e131)
                have HR131_2 := Aside0.mk hi131_2
                have HC131_2 := Aside0.mk hl131_2
                clear hi131_2 hl131_2
                replace p131 := eq_true p131
                replace q131 := eq_true q131
                have ea_ := Option.some.inj (hx130_2.symm.trans hx131_2)
                injection ea_ with ea_ en_ ec_
                subst ea_
                subst ec_
                clear en_
                have p132 : 0 ≤ (x5_1 : Int) := of_decide_eq_true (by first | (with_reducible assumption) | assumption)
                have q132 : x5_1 < (l0.length : Int) := of_decide_eq_true (by first | (with_reducible assumption) | assumption)
                obtain ⟨ad132, A132_2, c132_2, e132, hx132_0, hx132_1, hx132_2, hl132_2, hi132_2⟩ := at_T29 HR0.out x5_1 p132 q132
                obtain rfl : ad130 = ad132 := (by injection e132)
                have HR132_2 := Aside0.mk hi132_2
                have HC132_2 := Aside0.mk hl132_2
                clear hi132_2 hl132_2
                replace p132 := eq_true p132
                replace q132 := eq_true q132
                have ea_ := Option.some.inj (hx130_2.symm.trans hx132_2)
                injection ea_ with ea_ en_ ec_
                subst ea_
                subst ec_
                clear en_
                go_wp2_with (first | ((with_reducible refine gate_callee (f := 58) rfl ?_); refine goesL_ (some 36) rfl rfl Try.func58 (by kernel_rfl) rfl #[.slice A130_2 ((rd_T29 l0 x5_1).f2).length c130_2, .int .i64 (wrap64 ((wrap64 (x1_1 + 1)) + 1))] rfl (by (try simp only [List.map_toArray, List.map_cons, List.map_nil]); first | done | rfl | (simp only [List.length_drop, List.length_take]; rfl)) ?_; (with_reducible refine (ih k1 (by have := HK1.out; omega) _ _ ((rd_T29 l0 x5_1).f2) (wrap64 ((wrap64 (x1_1 + 1)) + 1)) t133 _ ?side1 ?side2 A7.out).mono ?_); (case side1 => repeat (first | exact HR132_2.out | (with_reducible refine Kd.C_alloc ?_ _) | (with_reducible refine Kd.C_drewN ?_ _) | (with_reducible refine Kd.C_drew ?_))); (case side2 => exact HC132_2.out); rintro e w' ⟨rfl, ⟨nd, rfl⟩⟩; refine ⟨_, rfl, ?_⟩))
                go_roundg k1
                case measure => have := HK1.out; omega
                case rel => exact ⟨(t133), (wrap64 (x5_1 + 1)), (by first | rfl | (simp; done) | (simp [*]; done)), (by first | rfl | (simp; done) | (simp [*]; done)), H', ⟨by have := HK1.out; omega⟩, by repeat (first | exact Drawn0.refl _ | apply Drawn0.step)⟩
            · rw [if_neg c6] at H
              have c6b0 : (((rd_T29 l0 x5_1).f1) == (wrap64 (x1_1 + 1))) = false := beq_eq_false_iff_ne.mpr c6
              have c6b1 : (((rd_T29 l0 x5_1).f1) != (wrap64 (x1_1 + 1))) = true := bne_iff_ne.mpr c6
              obtain rfl := Option.some.inj H
              have p130 : 0 ≤ (x5_1 : Int) := of_decide_eq_true (by first | (with_reducible assumption) | assumption)
              have q130 : x5_1 < (l0.length : Int) := of_decide_eq_true (by first | (with_reducible assumption) | assumption)
              obtain ⟨ad130, A130_2, c130_2, e130, hx130_0, hx130_1, hx130_2, hl130_2, hi130_2⟩ := at_T29 HR0.out x5_1 p130 q130
              cases e130
              have HR130_2 := Aside0.mk hi130_2
              have HC130_2 := Aside0.mk hl130_2
              clear hi130_2 hl130_2
              replace p130 := eq_true p130
              replace q130 := eq_true q130
              have p131 : 0 ≤ (x5_1 : Int) := of_decide_eq_true (by first | (with_reducible assumption) | assumption)
              have q131 : x5_1 < (l0.length : Int) := of_decide_eq_true (by first | (with_reducible assumption) | assumption)
              obtain ⟨ad131, A131_2, c131_2, e131, hx131_0, hx131_1, hx131_2, hl131_2, hi131_2⟩ := at_T29 HR0.out x5_1 p131 q131
              obtain rfl : ad130 = ad131 := (by injection e131)
              have HR131_2 := Aside0.mk hi131_2
              have HC131_2 := Aside0.mk hl131_2
              clear hi131_2 hl131_2
              replace p131 := eq_true p131
              replace q131 := eq_true q131
              have ea_ := Option.some.inj (hx130_2.symm.trans hx131_2)
              injection ea_ with ea_ en_ ec_
              subst ea_
              subst ec_
              clear en_
              go_wp2
              go_ret
              exact ⟨by first | rfl | (simp; done) | (simp [*]; done), by repeat (first | exact Drawn0.refl _ | apply Drawn0.step)⟩
          · rw [if_neg c5] at H
            have c5b0 : (((rd_T29 l0 x5_1).f0) == x1_1) = false := beq_eq_false_iff_ne.mpr c5
            have c5b1 : (((rd_T29 l0 x5_1).f0) != x1_1) = true := bne_iff_ne.mpr c5
            obtain rfl := Option.some.inj H
            have p130 : 0 ≤ (x5_1 : Int) := of_decide_eq_true (by first | (with_reducible assumption) | assumption)
            have q130 : x5_1 < (l0.length : Int) := of_decide_eq_true (by first | (with_reducible assumption) | assumption)
            obtain ⟨ad130, A130_2, c130_2, e130, hx130_0, hx130_1, hx130_2, hl130_2, hi130_2⟩ := at_T29 HR0.out x5_1 p130 q130
            cases e130
            have HR130_2 := Aside0.mk hi130_2
            have HC130_2 := Aside0.mk hl130_2
            clear hi130_2 hl130_2
            replace p130 := eq_true p130
            replace q130 := eq_true q130
            go_wp2
            go_ret
            exact ⟨by first | rfl | (simp; done) | (simp [*]; done), by repeat (first | exact Drawn0.refl _ | apply Drawn0.step)⟩
        · rw [if_neg c4] at H
          exact absurd H (by simp)
      · rw [if_neg c3] at H
        have c3b0 : decide (x5_1 < (l0.length : Int)) = false := decide_eq_false c3
        clear c3
        obtain rfl := Option.some.inj H
        go_wp2
        go_ret
        exact ⟨by first | rfl | (simp; done) | (simp [*]; done), by repeat (first | exact Drawn0.refl _ | apply Drawn0.step)⟩

end Go.Proofs.Ytjnobnmjhpmpfaa.P

namespace Go.Proofs.Ytjnobnmjhpmpfaa.P
open Go.RowKit Go.Proofs.YtjnobnmjhpmpfaaW.PrintWords Go.Proofs.YtjnobnmjhpmpfaaW.PrintLast Go.Proofs.YtjnobnmjhpmpfaaW.PrintMore
attribute [local go_sem] max2_int min2_int max_two min_two max_three min_three max_four min_four
set_option linter.unusedVariables false
set_option linter.unusedSimpArgs false

/-! ### laws_heldGate: function 24 -/
def laws_heldGate.f (k : Nat) (a0_0 : Int) (a0_1 : Int) (l0_2 : List (S29)) (a1 : Int) : Option (Int) := (laws_heldGateS.f k l0_2 a1).bind fun t135 => (if t135 < 0 then (some (-1)) else (some t135))
set_option maxHeartbeats 8000000 in
set_option maxRecDepth 100000 in
theorem laws_heldGate.calls (k : Nat) (a0_0 : Int) (a0_1 : Int) (A0_2 : Option Addr) (c0_2 : Nat) (l0_2 : List (S29)) (a1 : Int) (r : Int) (w : World) (hr0_2 : Kd.C k29 w A0_2 l0_2.length l0_2) (hc0_2 : l0_2.length ≤ c0_2) (h : laws_heldGate.f k a0_0 a0_1 l0_2 a1 = some r) :
    Calls Try.prog 24 #[.agg #[.int .i64 a0_0, .int .i64 a0_1, .slice A0_2 l0_2.length c0_2], .int .i64 a1] w fun e w' => e = .returned (.int .i64 r) ∧ Below w.heap.size w w' := by
  have hu29 := Try.underlying29
  have HR0_2 := Aside0.mk hr0_2
  have HC0_2 := Aside0.mk hc0_2
  clear hr0_2 hc0_2
  have HB := Aside0.mk (Below.refl w.heap.size w)
  have H : ((laws_heldGateS.f k l0_2 a1).bind fun t135 => (if t135 < 0 then (some (-1)) else (some t135))) = some r := h
  clear h
  replace H := Option.bind_eq_some_iff.mp H
  obtain ⟨t135, A30, H⟩ := H
  replace H : (if t135 < 0 then (some (-1)) else (some t135)) = some r := H
  have A3 := Aside0.mk A30
  clear A30
  by_cases c4 : t135 < 0
  · rw [if_pos c4] at H
    have c4b0 : decide (t135 < 0) = true := decide_eq_true c4
    clear c4
    obtain rfl := Option.some.inj H
    go_enter Try.func24, Try.ntmps24
    go_wp2_with (first | ((with_reducible refine gate_dst (N := 2) rfl ?_); refine box_event ?hg (N := 2) ?hd (cs := #[.int .i64 a0_0, .int .i64 a0_1, .slice A0_2 l0_2.length c0_2]) (t := 29) ?hr ?_; (case hd => rfl); (case hg => rfl); (case hr => first | (go_simp; done) | (go_simp; rfl)); intro gb134 hg w5 hbox hb; have n0_ := Aside0.mk (below_step (by repeat (first | (with_reducible first | exact HB.out | apply below_alloc | apply pw_below_drewN | apply below_drew1) | exact HB.out)) hb); have n1_ := Aside0.mk (hbox); have n2_ := Aside0.mk ((by rw [hg]; exact (below_size (by repeat (first | (with_reducible first | exact HB.out | apply below_alloc | apply pw_below_drewN | apply below_drew1) | exact HB.out))) : w.heap.size ≤ gb134)); have n3_ := Aside0.mk ((by rw [hg]; exact (below_size (by repeat (first | (with_reducible first | exact HB.out | apply below_alloc | apply pw_below_drewN | apply below_drew1) | exact HB.out))) : w.heap.size ≤ gb134)); clear HB; have HB := n0_; have BK134 := n1_; have GW134 := n2_; have GE134 := n3_; clear n0_ n1_ n2_ n3_; clear hb hbox hg; have hcz6_0 : w5.cell? ⟨gb134, 0, none⟩ = some (.int .i64 a0_0) := (blk_cell BK134.out 0).trans rfl; have hcz6_1 : w5.cell? ⟨gb134, 1, none⟩ = some (.int .i64 a0_1) := (blk_cell BK134.out 1).trans rfl; have hcz6_2 : w5.cell? ⟨gb134, 2, none⟩ = some (.slice A0_2 l0_2.length c0_2) := (blk_cell BK134.out 2).trans rfl; have hfz6_0 := blk_frozen BK134.out 0; have hfz6_1 := blk_frozen BK134.out 1; have hfz6_2 := blk_frozen BK134.out 2) | ((with_reducible refine gate_callee (f := 58) rfl ?_); refine goesL_ (some 8) rfl rfl Try.func58 (by kernel_rfl) rfl #[.slice A0_2 l0_2.length c0_2, .int .i64 a1] rfl (by (try simp only [List.map_toArray, List.map_cons, List.map_nil]); first | done | rfl | (simp only [List.length_drop, List.length_take]; rfl)) ?_; (with_reducible refine (laws_heldGateS.calls k _ _ l0_2 a1 t135 _ ?side1 ?side2 A3.out).mono ?_); (case side1 => repeat (first | exact (Kd.C_below HR0_2.out HB.out) | (with_reducible refine Kd.C_alloc ?_ _) | (with_reducible refine Kd.C_drewN ?_ _) | (with_reducible refine Kd.C_drew ?_))); (case side2 => exact HC0_2.out); rintro e w' ⟨rfl, ⟨nd, rfl⟩⟩; refine ⟨_, rfl, ?_⟩))
    go_ret
    exact ⟨by first | rfl | (simp [errW_none, errW_some] <;> rfl) | (simp [*, errW_none, errW_some] <;> rfl), by repeat (first | (with_reducible first | exact HB.out | apply below_alloc | apply pw_below_drewN | apply below_drew1 | refine below_set ?_ GE134.out) | exact HB.out)⟩
  · rw [if_neg c4] at H
    have c4b0 : decide (t135 < 0) = false := decide_eq_false c4
    clear c4
    obtain rfl := Option.some.inj H
    go_enter Try.func24, Try.ntmps24
    go_wp2_with (first | ((with_reducible refine gate_dst (N := 2) rfl ?_); refine box_event ?hg (N := 2) ?hd (cs := #[.int .i64 a0_0, .int .i64 a0_1, .slice A0_2 l0_2.length c0_2]) (t := 29) ?hr ?_; (case hd => rfl); (case hg => rfl); (case hr => first | (go_simp; done) | (go_simp; rfl)); intro gb134 hg w7 hbox hb; have n0_ := Aside0.mk (below_step (by repeat (first | (with_reducible first | exact HB.out | apply below_alloc | apply pw_below_drewN | apply below_drew1) | exact HB.out)) hb); have n1_ := Aside0.mk (hbox); have n2_ := Aside0.mk ((by rw [hg]; exact (below_size (by repeat (first | (with_reducible first | exact HB.out | apply below_alloc | apply pw_below_drewN | apply below_drew1) | exact HB.out))) : w.heap.size ≤ gb134)); have n3_ := Aside0.mk ((by rw [hg]; exact (below_size (by repeat (first | (with_reducible first | exact HB.out | apply below_alloc | apply pw_below_drewN | apply below_drew1) | exact HB.out))) : w.heap.size ≤ gb134)); clear HB; have HB := n0_; have BK134 := n1_; have GW134 := n2_; have GE134 := n3_; clear n0_ n1_ n2_ n3_; clear hb hbox hg; have hcz8_0 : w7.cell? ⟨gb134, 0, none⟩ = some (.int .i64 a0_0) := (blk_cell BK134.out 0).trans rfl; have hcz8_1 : w7.cell? ⟨gb134, 1, none⟩ = some (.int .i64 a0_1) := (blk_cell BK134.out 1).trans rfl; have hcz8_2 : w7.cell? ⟨gb134, 2, none⟩ = some (.slice A0_2 l0_2.length c0_2) := (blk_cell BK134.out 2).trans rfl; have hfz8_0 := blk_frozen BK134.out 0; have hfz8_1 := blk_frozen BK134.out 1; have hfz8_2 := blk_frozen BK134.out 2) | ((with_reducible refine gate_callee (f := 58) rfl ?_); refine goesL_ (some 8) rfl rfl Try.func58 (by kernel_rfl) rfl #[.slice A0_2 l0_2.length c0_2, .int .i64 a1] rfl (by (try simp only [List.map_toArray, List.map_cons, List.map_nil]); first | done | rfl | (simp only [List.length_drop, List.length_take]; rfl)) ?_; (with_reducible refine (laws_heldGateS.calls k _ _ l0_2 a1 t135 _ ?side1 ?side2 A3.out).mono ?_); (case side1 => repeat (first | exact (Kd.C_below HR0_2.out HB.out) | (with_reducible refine Kd.C_alloc ?_ _) | (with_reducible refine Kd.C_drewN ?_ _) | (with_reducible refine Kd.C_drew ?_))); (case side2 => exact HC0_2.out); rintro e w' ⟨rfl, ⟨nd, rfl⟩⟩; refine ⟨_, rfl, ?_⟩))
    go_ret
    exact ⟨by first | rfl | (simp [errW_none, errW_some] <;> rfl) | (simp [*, errW_none, errW_some] <;> rfl), by repeat (first | (with_reducible first | exact HB.out | apply below_alloc | apply pw_below_drewN | apply below_drew1 | refine below_set ?_ GE134.out) | exact HB.out)⟩

end Go.Proofs.Ytjnobnmjhpmpfaa.P

namespace Go.Proofs.Ytjnobnmjhpmpfaa.P
open Go.RowKit Go.Proofs.YtjnobnmjhpmpfaaW.PrintWords Go.Proofs.YtjnobnmjhpmpfaaW.PrintLast Go.Proofs.YtjnobnmjhpmpfaaW.PrintMore
attribute [local go_sem] max2_int min2_int max_two min_two max_three min_three max_four min_four
set_option linter.unusedVariables false
set_option linter.unusedSimpArgs false

theorem add_zero (a : Addr) : a.add 0 = a := rfl
/-- What lies at a gate's address. -/
theorem gate_at {w : World} {a : Addr} {x : S29} (h : Kd.C k29 w (some a) 1 [x]) : ∃ A c, w.cell? a = some (.int .i64 x.f0) ∧ w.cell? ⟨a.block, a.off + 1, none⟩ = some (.int .i64 x.f1) ∧ w.cell? ⟨a.block, a.off + 2, none⟩ = some (.slice A x.f2.length c) ∧ x.f2.length ≤ c ∧ Kd.C k29 w A x.f2.length x.f2 := by
  obtain ⟨ad, A, c, e, h0, h1, h2, hl, hc⟩ := at_T29 h 0 (by omega) (by omega)
  injection e with e
  subst e
  exact ⟨A, c, h0, h1, h2, hl, hc⟩
/-- An element's address is a gate's address. -/
theorem gate_el {w : World} {ad : Addr} {n : Nat} {xs : List S29} (h : Kd.C k29 w (some ad) n xs) (i : Int) (h0 : 0 ≤ i) (h1 : i < n) : Kd.C k29 w (some (ad.add (i.toNat * 3))) 1 [rd_T29 xs i] := by
  obtain ⟨ad', c, e, hcl, hK, hc⟩ := Kd.C_get h z29 i h0 h1
  injection e with e
  subst e
  refine ⟨rfl, by omega, fun _ => ⟨_, rfl, fun j p hp => ?_⟩⟩
  rcases j with _ | j
  · obtain rfl := Option.some.inj hp
    refine ⟨c, hcl, hK, fun j u hu => ?_⟩
    have := hc j u hu
    rw [Addr.add_add]
    rwa [show (0 * k29.sz + j) = j by omega]
  · simp at hp
/-- A variable that holds a gate. -/
theorem gate_box {w : World} {g : Nat} {a b : Int} {A : Option Addr} {c : Nat} {l : List S29} (hb : w.heap[g]? = some (.cells #[.int .i64 a, .int .i64 b, .slice A l.length c] 29 (0, 0))) (hr : Kd.C k29 w A l.length l) (hc : l.length ≤ c) : Kd.C k29 w (some ⟨g, 0, none⟩) 1 [(⟨a, b, l⟩ : S29)] := by
  refine ⟨rfl, by omega, fun _ => ⟨_, rfl, fun j p hp => ?_⟩⟩
  rcases j with _ | j
  · obtain rfl := Option.some.inj hp
    refine ⟨[.int .i64 a, .int .i64 b, .slice A l.length c], rfl, k29_mk w ⟨a, b, l⟩ hc hr, fun j u hu => ?_⟩
    have := blk_cell hb j
    have e : (⟨g, 0, none⟩ : Addr).add (0 * k29.sz + j) = ⟨g, j, none⟩ := by
      rw [show (0 * k29.sz + j) = j by omega]
      unfold Addr.add
      split
      · rename_i h; rw [h]
      · simp
    rw [e, this, ← hu]
    simp
  · simp at hp

end Go.Proofs.Ytjnobnmjhpmpfaa.P

namespace Go.Proofs.Ytjnobnmjhpmpfaa.P
open Go.RowKit Go.Proofs.YtjnobnmjhpmpfaaW.PrintWords Go.Proofs.YtjnobnmjhpmpfaaW.PrintLast Go.Proofs.YtjnobnmjhpmpfaaW.PrintMore
attribute [local go_sem] max2_int min2_int max_two min_two max_three min_three max_four min_four
set_option linter.unusedVariables false
set_option linter.unusedSimpArgs false

/-! ### spec_l02Left: function 83 (by hand) -/
mutual
def spec_l02Left.l0 : Nat → S29 → Int → Int → Option Int
  | 0, _, _, _ => none
  | k + 1, x, n, i => if i < (x.f2.length : Int) then (if n ≥ 0 then (if 0 ≤ i then ((spec_l02Left.f k (rd_T29 x.f2 i) n).bind fun t => spec_l02Left.l0 k x t (wrap64 (i + 1))) else none) else some n) else some n
def spec_l02Left.f : Nat → S29 → Int → Option Int
  | 0, _, _ => none
  | k + 1, x, n => spec_l02Left.l0 k x (wrap64 (n - 1)) 0
end
set_option maxHeartbeats 8000000 in
set_option maxRecDepth 100000 in
theorem spec_l02Left.calls (k : Nat) : ∀ (ad : Addr) (x : S29) (a1 : Int) (r : Int) (w : World) (hp : Kd.C k29 w (some ad) 1 [x]) (h : spec_l02Left.f k x a1 = some r),
    Calls Try.prog 83 #[.pointer (some ad), .int .i64 a1] w fun e w' => e = .returned (.int .i64 r) ∧ Drawn0 w w' := by
  induction k using Nat.strongRecOn with
  | _ k ih =>
  intro ad x a1 r w hp h
  cases k with
  | zero => exact absurd h (by simp [spec_l02Left.f])
  | succ k =>
  simp only [spec_l02Left.f] at h
  obtain ⟨A, c, hx0, hx1, hx2, hl, hC⟩ := gate_at hp
  have HP := Aside0.mk hp
  have HC := Aside0.mk hC
  clear hp hC hl
  have H' := Aside0.mk h
  clear h
  go_enter Try.func83, Try.ntmps83
  go_wp2
  repeat (go_quiet (fail); try go_wp2)
  go_loopg [1, 5] k (fun kq v3 v4 w' => ∃ (n : Int) (i : Int), v3 = .int .i64 n ∧ v4 = .int .i64 i ∧ Aside0 (spec_l02Left.l0 kq x n i = some r) ∧ Aside0 (kq ≤ k) ∧ Drawn0 w w')
  case atStart => exact ⟨wrap64 (a1 - 1), 0, (by first | rfl | (simp; done)), rfl, H', ⟨Nat.le_refl _⟩, by repeat (first | exact Drawn0.refl _ | apply Drawn0.step)⟩
  case round =>
    clear H'
    obtain ⟨n, i, rfl, rfl, HA, HK, ⟨m1, rfl⟩⟩ := hrel
    cases gk with
    | zero => exact absurd HA.out (by simp [spec_l02Left.l0])
    | succ k1 =>
      have H := HA.out
      clear HA
      simp only [spec_l02Left.l0] at H
      by_cases c6 : i < (x.f2.length : Int)
      · rw [if_pos c6] at H
        have c6b0 : decide (i < (x.f2.length : Int)) = true := decide_eq_true c6
        by_cases c5 : n ≥ 0
        · rw [if_pos c5] at H
          have c5b0 : decide (n ≥ 0) = true := decide_eq_true c5
          have c5b1 : decide (0 ≤ n) = true := decide_eq_true c5
          clear c5
          by_cases c7 : 0 ≤ i
          · rw [if_pos c7] at H
            have c7b0 : decide (0 ≤ i) = true := decide_eq_true c7
            replace H := Option.bind_eq_some_iff.mp H
            obtain ⟨t, At, H⟩ := H
            have A7 := Aside0.mk At
            have H' := Aside0.mk H
            clear At H
            obtain ⟨ad2, A2, c2, e2, _⟩ := at_T29 HC.out i c7 c6
            cases e2
            have HE := Aside0.mk (gate_el HC.out i c7 c6)
            replace c7 := eq_true c7
            replace c6 := eq_true c6
            go_wp2_with (first | (go_at_call 83; (with_reducible refine (ih k1 (by have := HK.out; omega) _ (rd_T29 x.f2 i) n t _ ?side1 A7.out).mono ?_); (case side1 => repeat (first | exact HE.out | (with_reducible refine Kd.C_alloc ?_ _) | (with_reducible refine Kd.C_drewN ?_ _) | (with_reducible refine Kd.C_drew ?_))); rintro e w' ⟨rfl, ⟨nd, rfl⟩⟩; (try first | exact ⟨rfl, _, World.drewN_drewN _ _ _⟩ | exact ⟨rfl, _, Eq.trans (World.drewN_drewN _ _ _) (congrArg (World.drewN _) (Nat.add_assoc _ _ _))⟩)))
            repeat (go_quiet (first | (go_at_call 83; (with_reducible refine (ih k1 (by have := HK.out; omega) _ (rd_T29 x.f2 i) n t _ ?side1 A7.out).mono ?_); (case side1 => repeat (first | exact HE.out | (with_reducible refine Kd.C_alloc ?_ _) | (with_reducible refine Kd.C_drewN ?_ _) | (with_reducible refine Kd.C_drew ?_))); rintro e w' ⟨rfl, ⟨nd, rfl⟩⟩; (try first | exact ⟨rfl, _, World.drewN_drewN _ _ _⟩ | exact ⟨rfl, _, Eq.trans (World.drewN_drewN _ _ _) (congrArg (World.drewN _) (Nat.add_assoc _ _ _))⟩))); try go_wp2_with (first | (go_at_call 83; (with_reducible refine (ih k1 (by have := HK.out; omega) _ (rd_T29 x.f2 i) n t _ ?side1 A7.out).mono ?_); (case side1 => repeat (first | exact HE.out | (with_reducible refine Kd.C_alloc ?_ _) | (with_reducible refine Kd.C_drewN ?_ _) | (with_reducible refine Kd.C_drew ?_))); rintro e w' ⟨rfl, ⟨nd, rfl⟩⟩; (try first | exact ⟨rfl, _, World.drewN_drewN _ _ _⟩ | exact ⟨rfl, _, Eq.trans (World.drewN_drewN _ _ _) (congrArg (World.drewN _) (Nat.add_assoc _ _ _))⟩))))
            go_roundg k1
            case measure => have := HK.out; omega
            case rel => exact ⟨_, _, rfl, (by first | rfl | (simp; done)), H', ⟨by have := HK.out; omega⟩, by repeat (first | exact Drawn0.refl _ | apply Drawn0.step)⟩
          · rw [if_neg c7] at H
            exact absurd H (by simp)
        · rw [if_neg c5] at H
          have c5b0 : decide (n ≥ 0) = false := decide_eq_false c5
          have c5b1 : decide (0 ≤ n) = false := decide_eq_false c5
          clear c5
          obtain rfl := Option.some.inj H
          go_wp2
          repeat (go_quiet (fail); try go_wp2)
          go_ret
          exact ⟨rfl, by repeat (first | exact Drawn0.refl _ | apply Drawn0.step)⟩
      · rw [if_neg c6] at H
        have c6b0 : decide (i < (x.f2.length : Int)) = false := decide_eq_false c6
        clear c6
        obtain rfl := Option.some.inj H
        go_wp2
        repeat (go_quiet (fail); try go_wp2)
        go_ret
        exact ⟨rfl, by repeat (first | exact Drawn0.refl _ | apply Drawn0.step)⟩

end Go.Proofs.Ytjnobnmjhpmpfaa.P

namespace Go.Proofs.Ytjnobnmjhpmpfaa.P
open Go.RowKit Go.Proofs.YtjnobnmjhpmpfaaW.PrintWords Go.Proofs.YtjnobnmjhpmpfaaW.PrintLast Go.Proofs.YtjnobnmjhpmpfaaW.PrintMore
attribute [local go_sem] max2_int min2_int max_two min_two max_three min_three max_four min_four
set_option linter.unusedVariables false
set_option linter.unusedSimpArgs false

/-! ### spec_l00Max: function 99 -/
def spec_l00Max.f (a0 : Int) (a1 : Int) : Option (Int) := if a0 > a1 then (some a0) else (some a1)
set_option maxHeartbeats 8000000 in
set_option maxRecDepth 100000 in
theorem spec_l00Max.calls (a0 : Int) (a1 : Int) (r : Int) (w : World) (h : spec_l00Max.f a0 a1 = some r) :
    Calls Try.prog 99 #[.int .i64 a0, .int .i64 a1] w fun e w' => e = .returned (.int .i64 r) ∧ Drawn0 w w' := by
  have H : (if a0 > a1 then (some a0) else (some a1)) = some r := h
  clear h
  by_cases c3 : a0 > a1
  · rw [if_pos c3] at H
    have c3b0 : decide (a1 < a0) = true := decide_eq_true c3
    clear c3
    obtain rfl := Option.some.inj H
    go_enter Try.func99, Try.ntmps99
    go_wp2
    go_ret
    exact ⟨by first | rfl | (simp; done) | (simp [*]; done), by repeat (first | exact Drawn0.refl _ | apply Drawn0.step)⟩
  · rw [if_neg c3] at H
    have c3b0 : decide (a1 < a0) = false := decide_eq_false c3
    clear c3
    obtain rfl := Option.some.inj H
    go_enter Try.func99, Try.ntmps99
    go_wp2
    go_ret
    exact ⟨by first | rfl | (simp; done) | (simp [*]; done), by repeat (first | exact Drawn0.refl _ | apply Drawn0.step)⟩

end Go.Proofs.Ytjnobnmjhpmpfaa.P

namespace Go.Proofs.Ytjnobnmjhpmpfaa.P
open Go.RowKit Go.Proofs.YtjnobnmjhpmpfaaW.PrintWords Go.Proofs.YtjnobnmjhpmpfaaW.PrintLast Go.Proofs.YtjnobnmjhpmpfaaW.PrintMore
attribute [local go_sem] max2_int min2_int max_two min_two max_three min_three max_four min_four
set_option linter.unusedVariables false
set_option linter.unusedSimpArgs false

/-! ### spec_l02Depth: function 84 (by hand) -/
mutual
def spec_l02Depth.l0 : Nat → S29 → Int → Int → Option Int
  | 0, _, _, _ => none
  | k + 1, x, n, i => if i < (x.f2.length : Int) then (if 0 ≤ i then ((spec_l02Depth.f k (rd_T29 x.f2 i)).bind fun t => (spec_l00Max.f n t).bind fun u => spec_l02Depth.l0 k x u (wrap64 (i + 1))) else none) else some (wrap64 (n + 1))
def spec_l02Depth.f : Nat → S29 → Option Int
  | 0, _ => none
  | k + 1, x => spec_l02Depth.l0 k x 0 0
end
set_option maxHeartbeats 8000000 in
set_option maxRecDepth 100000 in
theorem spec_l02Depth.calls (k : Nat) : ∀ (ad : Addr) (x : S29) (r : Int) (w : World) (hp : Kd.C k29 w (some ad) 1 [x]) (h : spec_l02Depth.f k x = some r),
    Calls Try.prog 84 #[.pointer (some ad)] w fun e w' => e = .returned (.int .i64 r) ∧ Drawn0 w w' := by
  induction k using Nat.strongRecOn with
  | _ k ih =>
  intro ad x r w hp h
  cases k with
  | zero => exact absurd h (by simp [spec_l02Depth.f])
  | succ k =>
  simp only [spec_l02Depth.f] at h
  obtain ⟨A, c, hx0, hx1, hx2, hl, hC⟩ := gate_at hp
  have HP := Aside0.mk hp
  have HC := Aside0.mk hC
  clear hp hC hl
  have H' := Aside0.mk h
  clear h
  go_enter Try.func84, Try.ntmps84
  go_wp2
  repeat (go_quiet (fail); try go_wp2)
  go_loopg [3, 4] k (fun kq v3 v4 w' => ∃ (n : Int) (i : Int), v3 = .int .i64 n ∧ v4 = .int .i64 i ∧ Aside0 (spec_l02Depth.l0 kq x n i = some r) ∧ Aside0 (kq ≤ k) ∧ Drawn0 w w')
  case atStart => exact ⟨0, 0, rfl, rfl, H', ⟨Nat.le_refl _⟩, by repeat (first | exact Drawn0.refl _ | apply Drawn0.step)⟩
  case round =>
    clear H'
    obtain ⟨n, i, rfl, rfl, HA, HK, ⟨m1, rfl⟩⟩ := hrel
    cases gk with
    | zero => exact absurd HA.out (by simp [spec_l02Depth.l0])
    | succ k1 =>
      have H := HA.out
      clear HA
      simp only [spec_l02Depth.l0] at H
      by_cases c6 : i < (x.f2.length : Int)
      · rw [if_pos c6] at H
        have c6b0 : decide (i < (x.f2.length : Int)) = true := decide_eq_true c6
        by_cases c7 : 0 ≤ i
        · rw [if_pos c7] at H
          have c7b0 : decide (0 ≤ i) = true := decide_eq_true c7
          replace H := Option.bind_eq_some_iff.mp H
          obtain ⟨t, At, H⟩ := H
          replace H := Option.bind_eq_some_iff.mp H
          obtain ⟨u, Au, H⟩ := H
          have A7 := Aside0.mk At
          have A8 := Aside0.mk Au
          have H' := Aside0.mk H
          clear At Au H
          obtain ⟨ad2, A2, c2, e2, _⟩ := at_T29 HC.out i c7 c6
          cases e2
          have HE := Aside0.mk (gate_el HC.out i c7 c6)
          replace c7 := eq_true c7
          replace c6 := eq_true c6
          go_wp2_with (first | (go_at_call 84; (with_reducible refine (ih k1 (by have := HK.out; omega) _ (rd_T29 x.f2 i) t _ ?side1 A7.out).mono ?_); (case side1 => repeat (first | exact HE.out | (with_reducible refine Kd.C_alloc ?_ _) | (with_reducible refine Kd.C_drewN ?_ _) | (with_reducible refine Kd.C_drew ?_))); rintro e w' ⟨rfl, ⟨nd, rfl⟩⟩; (try first | exact ⟨rfl, _, World.drewN_drewN _ _ _⟩ | exact ⟨rfl, _, Eq.trans (World.drewN_drewN _ _ _) (congrArg (World.drewN _) (Nat.add_assoc _ _ _))⟩)) | (go_at_call 99; (with_reducible refine (spec_l00Max.calls n t u _ A8.out).mono ?_); rintro e w' ⟨rfl, ⟨nd, rfl⟩⟩; (try first | exact ⟨rfl, _, World.drewN_drewN _ _ _⟩ | exact ⟨rfl, _, Eq.trans (World.drewN_drewN _ _ _) (congrArg (World.drewN _) (Nat.add_assoc _ _ _))⟩)))
          repeat (go_quiet (first | (go_at_call 84; (with_reducible refine (ih k1 (by have := HK.out; omega) _ (rd_T29 x.f2 i) t _ ?side1 A7.out).mono ?_); (case side1 => repeat (first | exact HE.out | (with_reducible refine Kd.C_alloc ?_ _) | (with_reducible refine Kd.C_drewN ?_ _) | (with_reducible refine Kd.C_drew ?_))); rintro e w' ⟨rfl, ⟨nd, rfl⟩⟩; (try first | exact ⟨rfl, _, World.drewN_drewN _ _ _⟩ | exact ⟨rfl, _, Eq.trans (World.drewN_drewN _ _ _) (congrArg (World.drewN _) (Nat.add_assoc _ _ _))⟩)) | (go_at_call 99; (with_reducible refine (spec_l00Max.calls n t u _ A8.out).mono ?_); rintro e w' ⟨rfl, ⟨nd, rfl⟩⟩; (try first | exact ⟨rfl, _, World.drewN_drewN _ _ _⟩ | exact ⟨rfl, _, Eq.trans (World.drewN_drewN _ _ _) (congrArg (World.drewN _) (Nat.add_assoc _ _ _))⟩))); try go_wp2_with (first | (go_at_call 84; (with_reducible refine (ih k1 (by have := HK.out; omega) _ (rd_T29 x.f2 i) t _ ?side1 A7.out).mono ?_); (case side1 => repeat (first | exact HE.out | (with_reducible refine Kd.C_alloc ?_ _) | (with_reducible refine Kd.C_drewN ?_ _) | (with_reducible refine Kd.C_drew ?_))); rintro e w' ⟨rfl, ⟨nd, rfl⟩⟩; (try first | exact ⟨rfl, _, World.drewN_drewN _ _ _⟩ | exact ⟨rfl, _, Eq.trans (World.drewN_drewN _ _ _) (congrArg (World.drewN _) (Nat.add_assoc _ _ _))⟩)) | (go_at_call 99; (with_reducible refine (spec_l00Max.calls n t u _ A8.out).mono ?_); rintro e w' ⟨rfl, ⟨nd, rfl⟩⟩; (try first | exact ⟨rfl, _, World.drewN_drewN _ _ _⟩ | exact ⟨rfl, _, Eq.trans (World.drewN_drewN _ _ _) (congrArg (World.drewN _) (Nat.add_assoc _ _ _))⟩))))
          go_roundg k1
          case measure => have := HK.out; omega
          case rel => exact ⟨_, _, rfl, (by first | rfl | (simp; done)), H', ⟨by have := HK.out; omega⟩, by repeat (first | exact Drawn0.refl _ | apply Drawn0.step)⟩
        · rw [if_neg c7] at H
          exact absurd H (by simp)
      · rw [if_neg c6] at H
        have c6b0 : decide (i < (x.f2.length : Int)) = false := decide_eq_false c6
        clear c6
        obtain rfl := Option.some.inj H
        go_wp2
        repeat (go_quiet (fail); try go_wp2)
        go_ret
        exact ⟨(by first | rfl | (simp; done)), by repeat (first | exact Drawn0.refl _ | apply Drawn0.step)⟩

end Go.Proofs.Ytjnobnmjhpmpfaa.P

namespace Go.Proofs.Ytjnobnmjhpmpfaa.P
open Go.RowKit Go.Proofs.YtjnobnmjhpmpfaaW.PrintWords Go.Proofs.YtjnobnmjhpmpfaaW.PrintLast Go.Proofs.YtjnobnmjhpmpfaaW.PrintMore
attribute [local go_sem] max2_int min2_int max_two min_two max_three min_three max_four min_four
set_option linter.unusedVariables false
set_option linter.unusedSimpArgs false

/-! ### spec_l02Form: function 85 (by hand) -/
mutual
def spec_l02Form.l0 : Nat → Int → S29 → Int → Option Bool
  | 0, _, _, _ => none
  | k + 1, h, x, i => if i < (x.f2.length : Int) then (if 0 ≤ i then ((spec_l02Form.f k h (rd_T29 x.f2 i)).bind fun t => if t = true then spec_l02Form.l0 k h x (wrap64 (i + 1)) else some false) else none) else (if x.f0 = -1 then spec_l00In.f x.f1 1 (x.f2.length : Int) else some false)
def spec_l02Form.f : Nat → Int → S29 → Option Bool
  | 0, _, _ => none
  | k + 1, h, x => if (x.f2.length : Int) = 0 then (if x.f1 = 0 then spec_l00In.f x.f0 0 (wrap64 (h - 1)) else some false) else spec_l02Form.l0 k h x 0
end
set_option maxHeartbeats 8000000 in
set_option maxRecDepth 100000 in
theorem spec_l02Form.calls (k : Nat) : ∀ (a0 : Int) (ad : Addr) (x : S29) (r : Bool) (w : World) (hp : Kd.C k29 w (some ad) 1 [x]) (h : spec_l02Form.f k a0 x = some r),
    Calls Try.prog 85 #[.int .i64 a0, .pointer (some ad)] w fun e w' => e = .returned (.bool r) ∧ Drawn0 w w' := by
  induction k using Nat.strongRecOn with
  | _ k ih =>
  intro a0 ad x r w hp h
  cases k with
  | zero => exact absurd h (by simp [spec_l02Form.f])
  | succ k =>
  simp only [spec_l02Form.f] at h
  obtain ⟨A, c, hx0, hx1, hx2, hl, hC⟩ := gate_at hp
  have HP := Aside0.mk hp
  have HC := Aside0.mk hC
  clear hp hC hl
  by_cases c1 : (x.f2.length : Int) = 0
  · rw [if_pos c1] at h
    have c1b0 : (((x.f2.length : Int) : Int) == 0) = true := beq_iff_eq.mpr c1
    have c1b1 : (((x.f2.length : Int) : Int) != 0) = false := bne_eq_false_iff_eq.mpr c1
    have c1b2 : (x.f2.length == 0) = true := by first | simpa using c1 | (simp at c1 ⊢; omega)
    have c1b3 : x.f2.isEmpty = true := by first | simpa using c1 | (simp at c1 ⊢; omega)
    clear c1
    by_cases c2 : x.f1 = 0
    · rw [if_pos c2] at h
      have c2b0 : ((x.f1 : Int) == 0) = true := beq_iff_eq.mpr c2
      have c2b1 : ((x.f1 : Int) != 0) = false := bne_eq_false_iff_eq.mpr c2
      clear c2
      have A5 := Aside0.mk h
      clear h
      go_enter Try.func85, Try.ntmps85
      go_wp2_with (first | (go_at_call 61; (with_reducible refine (spec_l00In.calls x.f0 0 (wrap64 (a0 - 1)) r _ A5.out).mono ?_); rintro e w' ⟨rfl, ⟨nd, rfl⟩⟩; (try first | exact ⟨rfl, _, World.drewN_drewN _ _ _⟩ | exact ⟨rfl, _, Eq.trans (World.drewN_drewN _ _ _) (congrArg (World.drewN _) (Nat.add_assoc _ _ _))⟩)))
      repeat (go_quiet (first | (go_at_call 61; (with_reducible refine (spec_l00In.calls x.f0 0 (wrap64 (a0 - 1)) r _ A5.out).mono ?_); rintro e w' ⟨rfl, ⟨nd, rfl⟩⟩; (try first | exact ⟨rfl, _, World.drewN_drewN _ _ _⟩ | exact ⟨rfl, _, Eq.trans (World.drewN_drewN _ _ _) (congrArg (World.drewN _) (Nat.add_assoc _ _ _))⟩))); try go_wp2_with (first | (go_at_call 61; (with_reducible refine (spec_l00In.calls x.f0 0 (wrap64 (a0 - 1)) r _ A5.out).mono ?_); rintro e w' ⟨rfl, ⟨nd, rfl⟩⟩; (try first | exact ⟨rfl, _, World.drewN_drewN _ _ _⟩ | exact ⟨rfl, _, Eq.trans (World.drewN_drewN _ _ _) (congrArg (World.drewN _) (Nat.add_assoc _ _ _))⟩))))
      go_ret
      exact ⟨(by first | rfl | (simp; done) | (simp [*]; done)), by repeat (first | exact Drawn0.refl _ | apply Drawn0.step)⟩
    · rw [if_neg c2] at h
      have c2b0 : ((x.f1 : Int) == 0) = false := beq_eq_false_iff_ne.mpr c2
      have c2b1 : ((x.f1 : Int) != 0) = true := bne_iff_ne.mpr c2
      clear c2
      obtain rfl := Option.some.inj h
      clear h
      go_enter Try.func85, Try.ntmps85
      go_wp2
      repeat (go_quiet (fail); try go_wp2)
      go_ret
      exact ⟨(by first | rfl | (simp; done) | (simp [*]; done)), by repeat (first | exact Drawn0.refl _ | apply Drawn0.step)⟩
  · rw [if_neg c1] at h
    have c1b0 : (((x.f2.length : Int) : Int) == 0) = false := beq_eq_false_iff_ne.mpr c1
    have c1b1 : (((x.f2.length : Int) : Int) != 0) = true := bne_iff_ne.mpr c1
    have c1b2 : (x.f2.length == 0) = false := by first | simpa using c1 | (simp at c1 ⊢; omega)
    have c1b3 : x.f2.isEmpty = false := by first | simpa using c1 | (simp at c1 ⊢; omega)
    clear c1
    have H' := Aside0.mk h
    clear h
    go_enter Try.func85, Try.ntmps85
    go_wp2
    repeat (go_quiet (fail); try go_wp2)
    go_loopg [5] k (fun kq v4 w' => ∃ (i : Int), v4 = .int .i64 i ∧ Aside0 (spec_l02Form.l0 kq a0 x i = some r) ∧ Aside0 (kq ≤ k) ∧ Drawn0 w w')
    case atStart => exact ⟨0, rfl, H', ⟨Nat.le_refl _⟩, by repeat (first | exact Drawn0.refl _ | apply Drawn0.step)⟩
    case round =>
      clear H'
      obtain ⟨i, rfl, HA, HK, ⟨m1, rfl⟩⟩ := hrel
      cases gk with
      | zero => exact absurd HA.out (by simp [spec_l02Form.l0])
      | succ k1 =>
        have H := HA.out
        clear HA
        simp only [spec_l02Form.l0] at H
        by_cases c6 : i < (x.f2.length : Int)
        · rw [if_pos c6] at H
          have c6b0 : decide (i < (x.f2.length : Int)) = true := decide_eq_true c6
          by_cases c7 : 0 ≤ i
          · rw [if_pos c7] at H
            have c7b0 : decide (0 ≤ i) = true := decide_eq_true c7
            replace H := Option.bind_eq_some_iff.mp H
            obtain ⟨t, At, H⟩ := H
            have A7 := Aside0.mk At
            clear At
            obtain ⟨ad2, A2, c2, e2, _⟩ := at_T29 HC.out i c7 c6
            cases e2
            have HE := Aside0.mk (gate_el HC.out i c7 c6)
            replace c7 := eq_true c7
            replace c6 := eq_true c6
            cases t with
            | true =>
              rw [if_pos rfl] at H
              have H' := Aside0.mk H
              clear H
              go_wp2_with (first | (go_at_call 85; (with_reducible refine (ih k1 (by have := HK.out; omega) a0 _ (rd_T29 x.f2 i) true _ ?side1 A7.out).mono ?_); (case side1 => repeat (first | exact HE.out | (with_reducible refine Kd.C_alloc ?_ _) | (with_reducible refine Kd.C_drewN ?_ _) | (with_reducible refine Kd.C_drew ?_))); rintro e w' ⟨rfl, ⟨nd, rfl⟩⟩; (try first | exact ⟨rfl, _, World.drewN_drewN _ _ _⟩ | exact ⟨rfl, _, Eq.trans (World.drewN_drewN _ _ _) (congrArg (World.drewN _) (Nat.add_assoc _ _ _))⟩)))
              repeat (go_quiet (first | (go_at_call 85; (with_reducible refine (ih k1 (by have := HK.out; omega) a0 _ (rd_T29 x.f2 i) true _ ?side1 A7.out).mono ?_); (case side1 => repeat (first | exact HE.out | (with_reducible refine Kd.C_alloc ?_ _) | (with_reducible refine Kd.C_drewN ?_ _) | (with_reducible refine Kd.C_drew ?_))); rintro e w' ⟨rfl, ⟨nd, rfl⟩⟩; (try first | exact ⟨rfl, _, World.drewN_drewN _ _ _⟩ | exact ⟨rfl, _, Eq.trans (World.drewN_drewN _ _ _) (congrArg (World.drewN _) (Nat.add_assoc _ _ _))⟩))); try go_wp2_with (first | (go_at_call 85; (with_reducible refine (ih k1 (by have := HK.out; omega) a0 _ (rd_T29 x.f2 i) true _ ?side1 A7.out).mono ?_); (case side1 => repeat (first | exact HE.out | (with_reducible refine Kd.C_alloc ?_ _) | (with_reducible refine Kd.C_drewN ?_ _) | (with_reducible refine Kd.C_drew ?_))); rintro e w' ⟨rfl, ⟨nd, rfl⟩⟩; (try first | exact ⟨rfl, _, World.drewN_drewN _ _ _⟩ | exact ⟨rfl, _, Eq.trans (World.drewN_drewN _ _ _) (congrArg (World.drewN _) (Nat.add_assoc _ _ _))⟩))))
              go_roundg k1
              case measure => have := HK.out; omega
              case rel => exact ⟨_, (by first | rfl | (simp; done)), H', ⟨by have := HK.out; omega⟩, by repeat (first | exact Drawn0.refl _ | apply Drawn0.step)⟩
            | false =>
              rw [if_neg (by decide)] at H
              obtain rfl := Option.some.inj H
              clear H
              go_wp2_with (first | (go_at_call 85; (with_reducible refine (ih k1 (by have := HK.out; omega) a0 _ (rd_T29 x.f2 i) false _ ?side1 A7.out).mono ?_); (case side1 => repeat (first | exact HE.out | (with_reducible refine Kd.C_alloc ?_ _) | (with_reducible refine Kd.C_drewN ?_ _) | (with_reducible refine Kd.C_drew ?_))); rintro e w' ⟨rfl, ⟨nd, rfl⟩⟩; (try first | exact ⟨rfl, _, World.drewN_drewN _ _ _⟩ | exact ⟨rfl, _, Eq.trans (World.drewN_drewN _ _ _) (congrArg (World.drewN _) (Nat.add_assoc _ _ _))⟩)))
              repeat (go_quiet (first | (go_at_call 85; (with_reducible refine (ih k1 (by have := HK.out; omega) a0 _ (rd_T29 x.f2 i) false _ ?side1 A7.out).mono ?_); (case side1 => repeat (first | exact HE.out | (with_reducible refine Kd.C_alloc ?_ _) | (with_reducible refine Kd.C_drewN ?_ _) | (with_reducible refine Kd.C_drew ?_))); rintro e w' ⟨rfl, ⟨nd, rfl⟩⟩; (try first | exact ⟨rfl, _, World.drewN_drewN _ _ _⟩ | exact ⟨rfl, _, Eq.trans (World.drewN_drewN _ _ _) (congrArg (World.drewN _) (Nat.add_assoc _ _ _))⟩))); try go_wp2_with (first | (go_at_call 85; (with_reducible refine (ih k1 (by have := HK.out; omega) a0 _ (rd_T29 x.f2 i) false _ ?side1 A7.out).mono ?_); (case side1 => repeat (first | exact HE.out | (with_reducible refine Kd.C_alloc ?_ _) | (with_reducible refine Kd.C_drewN ?_ _) | (with_reducible refine Kd.C_drew ?_))); rintro e w' ⟨rfl, ⟨nd, rfl⟩⟩; (try first | exact ⟨rfl, _, World.drewN_drewN _ _ _⟩ | exact ⟨rfl, _, Eq.trans (World.drewN_drewN _ _ _) (congrArg (World.drewN _) (Nat.add_assoc _ _ _))⟩))))
              go_ret
              exact ⟨(by first | rfl | (simp; done) | (simp [*]; done)), by repeat (first | exact Drawn0.refl _ | apply Drawn0.step)⟩
          · rw [if_neg c7] at H
            exact absurd H (by simp)
        · rw [if_neg c6] at H
          have c6b0 : decide (i < (x.f2.length : Int)) = false := decide_eq_false c6
          clear c6
          by_cases c2 : x.f0 = -1
          · rw [if_pos c2] at H
            have c2b0 : ((x.f0 : Int) == -1) = true := beq_iff_eq.mpr c2
            have c2b1 : ((x.f0 : Int) != -1) = false := bne_eq_false_iff_eq.mpr c2
            clear c2
            have A5 := Aside0.mk H
            clear H
            go_wp2_with (first | (go_at_call 61; (with_reducible refine (spec_l00In.calls x.f1 1 (x.f2.length : Int) r _ A5.out).mono ?_); rintro e w' ⟨rfl, ⟨nd, rfl⟩⟩; (try first | exact ⟨rfl, _, World.drewN_drewN _ _ _⟩ | exact ⟨rfl, _, Eq.trans (World.drewN_drewN _ _ _) (congrArg (World.drewN _) (Nat.add_assoc _ _ _))⟩)))
            repeat (go_quiet (first | (go_at_call 61; (with_reducible refine (spec_l00In.calls x.f1 1 (x.f2.length : Int) r _ A5.out).mono ?_); rintro e w' ⟨rfl, ⟨nd, rfl⟩⟩; (try first | exact ⟨rfl, _, World.drewN_drewN _ _ _⟩ | exact ⟨rfl, _, Eq.trans (World.drewN_drewN _ _ _) (congrArg (World.drewN _) (Nat.add_assoc _ _ _))⟩))); try go_wp2_with (first | (go_at_call 61; (with_reducible refine (spec_l00In.calls x.f1 1 (x.f2.length : Int) r _ A5.out).mono ?_); rintro e w' ⟨rfl, ⟨nd, rfl⟩⟩; (try first | exact ⟨rfl, _, World.drewN_drewN _ _ _⟩ | exact ⟨rfl, _, Eq.trans (World.drewN_drewN _ _ _) (congrArg (World.drewN _) (Nat.add_assoc _ _ _))⟩))))
            go_ret
            exact ⟨(by first | rfl | (simp; done) | (simp [*]; done)), by repeat (first | exact Drawn0.refl _ | apply Drawn0.step)⟩
          · rw [if_neg c2] at H
            have c2b0 : ((x.f0 : Int) == -1) = false := beq_eq_false_iff_ne.mpr c2
            have c2b1 : ((x.f0 : Int) != -1) = true := bne_iff_ne.mpr c2
            clear c2
            obtain rfl := Option.some.inj H
            clear H
            go_wp2
            repeat (go_quiet (fail); try go_wp2)
            go_ret
            exact ⟨(by first | rfl | (simp; done) | (simp [*]; done)), by repeat (first | exact Drawn0.refl _ | apply Drawn0.step)⟩

end Go.Proofs.Ytjnobnmjhpmpfaa.P

namespace Go.Proofs.Ytjnobnmjhpmpfaa.P
open Go.RowKit Go.Proofs.YtjnobnmjhpmpfaaW.PrintWords Go.Proofs.YtjnobnmjhpmpfaaW.PrintLast Go.Proofs.YtjnobnmjhpmpfaaW.PrintMore
attribute [local go_sem] max2_int min2_int max_two min_two max_three min_three max_four min_four
set_option linter.unusedVariables false
set_option linter.unusedSimpArgs false

/-! ### spec_l02Ok: function 49 (by hand) -/
def spec_l02Ok.f (k : Nat) (h : Int) (x : S29) : Option Bool := (spec_l00In.f h 1 7).bind fun t => if t = true then ((spec_l02Left.f k x 60).bind fun u => if u ≥ 0 then ((spec_l02Depth.f k x).bind fun v => if v ≤ 12 then spec_l02Form.f k h x else some false) else some false) else some false
set_option maxHeartbeats 8000000 in
set_option maxRecDepth 100000 in
theorem spec_l02Ok.calls (k : Nat) (a0 : Int) (ad : Addr) (x : S29) (r : Bool) (w : World) (hp : Kd.C k29 w (some ad) 1 [x]) (h : spec_l02Ok.f k a0 x = some r) :
    Calls Try.prog 49 #[.int .i64 a0, .pointer (some ad)] w fun e w' => e = .returned (.bool r) ∧ Drawn0 w w' := by
  have HP := Aside0.mk hp
  clear hp
  unfold spec_l02Ok.f at h
  replace h := Option.bind_eq_some_iff.mp h
  obtain ⟨t, At, h⟩ := h
  have A1 := Aside0.mk At
  clear At
  cases t with
  | false =>
    rw [if_neg (by decide)] at h
    obtain rfl := Option.some.inj h
    clear h
    go_enter Try.func49, Try.ntmps49
    go_wp2_with (first | (go_at_call 61; (with_reducible refine (spec_l00In.calls a0 1 7 false _ A1.out).mono ?_); rintro e w' ⟨rfl, ⟨nd, rfl⟩⟩; (try first | exact ⟨rfl, _, World.drewN_drewN _ _ _⟩ | exact ⟨rfl, _, Eq.trans (World.drewN_drewN _ _ _) (congrArg (World.drewN _) (Nat.add_assoc _ _ _))⟩)))
    repeat (go_quiet (first | (go_at_call 61; (with_reducible refine (spec_l00In.calls a0 1 7 false _ A1.out).mono ?_); rintro e w' ⟨rfl, ⟨nd, rfl⟩⟩; (try first | exact ⟨rfl, _, World.drewN_drewN _ _ _⟩ | exact ⟨rfl, _, Eq.trans (World.drewN_drewN _ _ _) (congrArg (World.drewN _) (Nat.add_assoc _ _ _))⟩))); try go_wp2_with (first | (go_at_call 61; (with_reducible refine (spec_l00In.calls a0 1 7 false _ A1.out).mono ?_); rintro e w' ⟨rfl, ⟨nd, rfl⟩⟩; (try first | exact ⟨rfl, _, World.drewN_drewN _ _ _⟩ | exact ⟨rfl, _, Eq.trans (World.drewN_drewN _ _ _) (congrArg (World.drewN _) (Nat.add_assoc _ _ _))⟩))))
    go_ret
    exact ⟨(by first | rfl | (simp; done) | (simp [*]; done)), by repeat (first | exact Drawn0.refl _ | apply Drawn0.step)⟩
  | true =>
    rw [if_pos rfl] at h
    replace h := Option.bind_eq_some_iff.mp h
    obtain ⟨u, Au, h⟩ := h
    have A2 := Aside0.mk Au
    clear Au
    by_cases c1 : u ≥ 0
    · rw [if_pos c1] at h
      have c1b0 : decide (u ≥ 0) = true := decide_eq_true c1
      have c1b1 : decide (0 ≤ u) = true := decide_eq_true c1
      clear c1
      replace h := Option.bind_eq_some_iff.mp h
      obtain ⟨v, Av, h⟩ := h
      have A3 := Aside0.mk Av
      clear Av
      by_cases c2 : v ≤ 12
      · rw [if_pos c2] at h
        have c2b0 : decide (v ≤ 12) = true := decide_eq_true c2
        clear c2
        have A4 := Aside0.mk h
        clear h
        go_enter Try.func49, Try.ntmps49
        go_wp2_with (first | (go_at_call 61; (with_reducible refine (spec_l00In.calls a0 1 7 true _ A1.out).mono ?_); rintro e w' ⟨rfl, ⟨nd, rfl⟩⟩; (try first | exact ⟨rfl, _, World.drewN_drewN _ _ _⟩ | exact ⟨rfl, _, Eq.trans (World.drewN_drewN _ _ _) (congrArg (World.drewN _) (Nat.add_assoc _ _ _))⟩)) | (go_at_call 83; (with_reducible refine (spec_l02Left.calls k ad x 60 u _ ?side1 A2.out).mono ?_); (case side1 => repeat (first | exact HP.out | (with_reducible refine Kd.C_alloc ?_ _) | (with_reducible refine Kd.C_drewN ?_ _) | (with_reducible refine Kd.C_drew ?_))); rintro e w' ⟨rfl, ⟨nd, rfl⟩⟩; (try first | exact ⟨rfl, _, World.drewN_drewN _ _ _⟩ | exact ⟨rfl, _, Eq.trans (World.drewN_drewN _ _ _) (congrArg (World.drewN _) (Nat.add_assoc _ _ _))⟩)) | (go_at_call 84; (with_reducible refine (spec_l02Depth.calls k ad x v _ ?side1 A3.out).mono ?_); (case side1 => repeat (first | exact HP.out | (with_reducible refine Kd.C_alloc ?_ _) | (with_reducible refine Kd.C_drewN ?_ _) | (with_reducible refine Kd.C_drew ?_))); rintro e w' ⟨rfl, ⟨nd, rfl⟩⟩; (try first | exact ⟨rfl, _, World.drewN_drewN _ _ _⟩ | exact ⟨rfl, _, Eq.trans (World.drewN_drewN _ _ _) (congrArg (World.drewN _) (Nat.add_assoc _ _ _))⟩)) | (go_at_call 85; (with_reducible refine (spec_l02Form.calls k a0 ad x r _ ?side1 A4.out).mono ?_); (case side1 => repeat (first | exact HP.out | (with_reducible refine Kd.C_alloc ?_ _) | (with_reducible refine Kd.C_drewN ?_ _) | (with_reducible refine Kd.C_drew ?_))); rintro e w' ⟨rfl, ⟨nd, rfl⟩⟩; (try first | exact ⟨rfl, _, World.drewN_drewN _ _ _⟩ | exact ⟨rfl, _, Eq.trans (World.drewN_drewN _ _ _) (congrArg (World.drewN _) (Nat.add_assoc _ _ _))⟩)))
        repeat (go_quiet (first | (go_at_call 61; (with_reducible refine (spec_l00In.calls a0 1 7 true _ A1.out).mono ?_); rintro e w' ⟨rfl, ⟨nd, rfl⟩⟩; (try first | exact ⟨rfl, _, World.drewN_drewN _ _ _⟩ | exact ⟨rfl, _, Eq.trans (World.drewN_drewN _ _ _) (congrArg (World.drewN _) (Nat.add_assoc _ _ _))⟩)) | (go_at_call 83; (with_reducible refine (spec_l02Left.calls k ad x 60 u _ ?side1 A2.out).mono ?_); (case side1 => repeat (first | exact HP.out | (with_reducible refine Kd.C_alloc ?_ _) | (with_reducible refine Kd.C_drewN ?_ _) | (with_reducible refine Kd.C_drew ?_))); rintro e w' ⟨rfl, ⟨nd, rfl⟩⟩; (try first | exact ⟨rfl, _, World.drewN_drewN _ _ _⟩ | exact ⟨rfl, _, Eq.trans (World.drewN_drewN _ _ _) (congrArg (World.drewN _) (Nat.add_assoc _ _ _))⟩)) | (go_at_call 84; (with_reducible refine (spec_l02Depth.calls k ad x v _ ?side1 A3.out).mono ?_); (case side1 => repeat (first | exact HP.out | (with_reducible refine Kd.C_alloc ?_ _) | (with_reducible refine Kd.C_drewN ?_ _) | (with_reducible refine Kd.C_drew ?_))); rintro e w' ⟨rfl, ⟨nd, rfl⟩⟩; (try first | exact ⟨rfl, _, World.drewN_drewN _ _ _⟩ | exact ⟨rfl, _, Eq.trans (World.drewN_drewN _ _ _) (congrArg (World.drewN _) (Nat.add_assoc _ _ _))⟩)) | (go_at_call 85; (with_reducible refine (spec_l02Form.calls k a0 ad x r _ ?side1 A4.out).mono ?_); (case side1 => repeat (first | exact HP.out | (with_reducible refine Kd.C_alloc ?_ _) | (with_reducible refine Kd.C_drewN ?_ _) | (with_reducible refine Kd.C_drew ?_))); rintro e w' ⟨rfl, ⟨nd, rfl⟩⟩; (try first | exact ⟨rfl, _, World.drewN_drewN _ _ _⟩ | exact ⟨rfl, _, Eq.trans (World.drewN_drewN _ _ _) (congrArg (World.drewN _) (Nat.add_assoc _ _ _))⟩))); try go_wp2_with (first | (go_at_call 61; (with_reducible refine (spec_l00In.calls a0 1 7 true _ A1.out).mono ?_); rintro e w' ⟨rfl, ⟨nd, rfl⟩⟩; (try first | exact ⟨rfl, _, World.drewN_drewN _ _ _⟩ | exact ⟨rfl, _, Eq.trans (World.drewN_drewN _ _ _) (congrArg (World.drewN _) (Nat.add_assoc _ _ _))⟩)) | (go_at_call 83; (with_reducible refine (spec_l02Left.calls k ad x 60 u _ ?side1 A2.out).mono ?_); (case side1 => repeat (first | exact HP.out | (with_reducible refine Kd.C_alloc ?_ _) | (with_reducible refine Kd.C_drewN ?_ _) | (with_reducible refine Kd.C_drew ?_))); rintro e w' ⟨rfl, ⟨nd, rfl⟩⟩; (try first | exact ⟨rfl, _, World.drewN_drewN _ _ _⟩ | exact ⟨rfl, _, Eq.trans (World.drewN_drewN _ _ _) (congrArg (World.drewN _) (Nat.add_assoc _ _ _))⟩)) | (go_at_call 84; (with_reducible refine (spec_l02Depth.calls k ad x v _ ?side1 A3.out).mono ?_); (case side1 => repeat (first | exact HP.out | (with_reducible refine Kd.C_alloc ?_ _) | (with_reducible refine Kd.C_drewN ?_ _) | (with_reducible refine Kd.C_drew ?_))); rintro e w' ⟨rfl, ⟨nd, rfl⟩⟩; (try first | exact ⟨rfl, _, World.drewN_drewN _ _ _⟩ | exact ⟨rfl, _, Eq.trans (World.drewN_drewN _ _ _) (congrArg (World.drewN _) (Nat.add_assoc _ _ _))⟩)) | (go_at_call 85; (with_reducible refine (spec_l02Form.calls k a0 ad x r _ ?side1 A4.out).mono ?_); (case side1 => repeat (first | exact HP.out | (with_reducible refine Kd.C_alloc ?_ _) | (with_reducible refine Kd.C_drewN ?_ _) | (with_reducible refine Kd.C_drew ?_))); rintro e w' ⟨rfl, ⟨nd, rfl⟩⟩; (try first | exact ⟨rfl, _, World.drewN_drewN _ _ _⟩ | exact ⟨rfl, _, Eq.trans (World.drewN_drewN _ _ _) (congrArg (World.drewN _) (Nat.add_assoc _ _ _))⟩))))
        go_ret
        exact ⟨(by first | rfl | (simp; done) | (simp [*]; done)), by repeat (first | exact Drawn0.refl _ | apply Drawn0.step)⟩
      · rw [if_neg c2] at h
        have c2b0 : decide (v ≤ 12) = false := decide_eq_false c2
        clear c2
        obtain rfl := Option.some.inj h
        clear h
        go_enter Try.func49, Try.ntmps49
        go_wp2_with (first | (go_at_call 61; (with_reducible refine (spec_l00In.calls a0 1 7 true _ A1.out).mono ?_); rintro e w' ⟨rfl, ⟨nd, rfl⟩⟩; (try first | exact ⟨rfl, _, World.drewN_drewN _ _ _⟩ | exact ⟨rfl, _, Eq.trans (World.drewN_drewN _ _ _) (congrArg (World.drewN _) (Nat.add_assoc _ _ _))⟩)) | (go_at_call 83; (with_reducible refine (spec_l02Left.calls k ad x 60 u _ ?side1 A2.out).mono ?_); (case side1 => repeat (first | exact HP.out | (with_reducible refine Kd.C_alloc ?_ _) | (with_reducible refine Kd.C_drewN ?_ _) | (with_reducible refine Kd.C_drew ?_))); rintro e w' ⟨rfl, ⟨nd, rfl⟩⟩; (try first | exact ⟨rfl, _, World.drewN_drewN _ _ _⟩ | exact ⟨rfl, _, Eq.trans (World.drewN_drewN _ _ _) (congrArg (World.drewN _) (Nat.add_assoc _ _ _))⟩)) | (go_at_call 84; (with_reducible refine (spec_l02Depth.calls k ad x v _ ?side1 A3.out).mono ?_); (case side1 => repeat (first | exact HP.out | (with_reducible refine Kd.C_alloc ?_ _) | (with_reducible refine Kd.C_drewN ?_ _) | (with_reducible refine Kd.C_drew ?_))); rintro e w' ⟨rfl, ⟨nd, rfl⟩⟩; (try first | exact ⟨rfl, _, World.drewN_drewN _ _ _⟩ | exact ⟨rfl, _, Eq.trans (World.drewN_drewN _ _ _) (congrArg (World.drewN _) (Nat.add_assoc _ _ _))⟩)))
        repeat (go_quiet (first | (go_at_call 61; (with_reducible refine (spec_l00In.calls a0 1 7 true _ A1.out).mono ?_); rintro e w' ⟨rfl, ⟨nd, rfl⟩⟩; (try first | exact ⟨rfl, _, World.drewN_drewN _ _ _⟩ | exact ⟨rfl, _, Eq.trans (World.drewN_drewN _ _ _) (congrArg (World.drewN _) (Nat.add_assoc _ _ _))⟩)) | (go_at_call 83; (with_reducible refine (spec_l02Left.calls k ad x 60 u _ ?side1 A2.out).mono ?_); (case side1 => repeat (first | exact HP.out | (with_reducible refine Kd.C_alloc ?_ _) | (with_reducible refine Kd.C_drewN ?_ _) | (with_reducible refine Kd.C_drew ?_))); rintro e w' ⟨rfl, ⟨nd, rfl⟩⟩; (try first | exact ⟨rfl, _, World.drewN_drewN _ _ _⟩ | exact ⟨rfl, _, Eq.trans (World.drewN_drewN _ _ _) (congrArg (World.drewN _) (Nat.add_assoc _ _ _))⟩)) | (go_at_call 84; (with_reducible refine (spec_l02Depth.calls k ad x v _ ?side1 A3.out).mono ?_); (case side1 => repeat (first | exact HP.out | (with_reducible refine Kd.C_alloc ?_ _) | (with_reducible refine Kd.C_drewN ?_ _) | (with_reducible refine Kd.C_drew ?_))); rintro e w' ⟨rfl, ⟨nd, rfl⟩⟩; (try first | exact ⟨rfl, _, World.drewN_drewN _ _ _⟩ | exact ⟨rfl, _, Eq.trans (World.drewN_drewN _ _ _) (congrArg (World.drewN _) (Nat.add_assoc _ _ _))⟩))); try go_wp2_with (first | (go_at_call 61; (with_reducible refine (spec_l00In.calls a0 1 7 true _ A1.out).mono ?_); rintro e w' ⟨rfl, ⟨nd, rfl⟩⟩; (try first | exact ⟨rfl, _, World.drewN_drewN _ _ _⟩ | exact ⟨rfl, _, Eq.trans (World.drewN_drewN _ _ _) (congrArg (World.drewN _) (Nat.add_assoc _ _ _))⟩)) | (go_at_call 83; (with_reducible refine (spec_l02Left.calls k ad x 60 u _ ?side1 A2.out).mono ?_); (case side1 => repeat (first | exact HP.out | (with_reducible refine Kd.C_alloc ?_ _) | (with_reducible refine Kd.C_drewN ?_ _) | (with_reducible refine Kd.C_drew ?_))); rintro e w' ⟨rfl, ⟨nd, rfl⟩⟩; (try first | exact ⟨rfl, _, World.drewN_drewN _ _ _⟩ | exact ⟨rfl, _, Eq.trans (World.drewN_drewN _ _ _) (congrArg (World.drewN _) (Nat.add_assoc _ _ _))⟩)) | (go_at_call 84; (with_reducible refine (spec_l02Depth.calls k ad x v _ ?side1 A3.out).mono ?_); (case side1 => repeat (first | exact HP.out | (with_reducible refine Kd.C_alloc ?_ _) | (with_reducible refine Kd.C_drewN ?_ _) | (with_reducible refine Kd.C_drew ?_))); rintro e w' ⟨rfl, ⟨nd, rfl⟩⟩; (try first | exact ⟨rfl, _, World.drewN_drewN _ _ _⟩ | exact ⟨rfl, _, Eq.trans (World.drewN_drewN _ _ _) (congrArg (World.drewN _) (Nat.add_assoc _ _ _))⟩))))
        go_ret
        exact ⟨(by first | rfl | (simp; done) | (simp [*]; done)), by repeat (first | exact Drawn0.refl _ | apply Drawn0.step)⟩
    · rw [if_neg c1] at h
      have c1b0 : decide (u ≥ 0) = false := decide_eq_false c1
      have c1b1 : decide (0 ≤ u) = false := decide_eq_false c1
      clear c1
      obtain rfl := Option.some.inj h
      clear h
      go_enter Try.func49, Try.ntmps49
      go_wp2_with (first | (go_at_call 61; (with_reducible refine (spec_l00In.calls a0 1 7 true _ A1.out).mono ?_); rintro e w' ⟨rfl, ⟨nd, rfl⟩⟩; (try first | exact ⟨rfl, _, World.drewN_drewN _ _ _⟩ | exact ⟨rfl, _, Eq.trans (World.drewN_drewN _ _ _) (congrArg (World.drewN _) (Nat.add_assoc _ _ _))⟩)) | (go_at_call 83; (with_reducible refine (spec_l02Left.calls k ad x 60 u _ ?side1 A2.out).mono ?_); (case side1 => repeat (first | exact HP.out | (with_reducible refine Kd.C_alloc ?_ _) | (with_reducible refine Kd.C_drewN ?_ _) | (with_reducible refine Kd.C_drew ?_))); rintro e w' ⟨rfl, ⟨nd, rfl⟩⟩; (try first | exact ⟨rfl, _, World.drewN_drewN _ _ _⟩ | exact ⟨rfl, _, Eq.trans (World.drewN_drewN _ _ _) (congrArg (World.drewN _) (Nat.add_assoc _ _ _))⟩)))
      repeat (go_quiet (first | (go_at_call 61; (with_reducible refine (spec_l00In.calls a0 1 7 true _ A1.out).mono ?_); rintro e w' ⟨rfl, ⟨nd, rfl⟩⟩; (try first | exact ⟨rfl, _, World.drewN_drewN _ _ _⟩ | exact ⟨rfl, _, Eq.trans (World.drewN_drewN _ _ _) (congrArg (World.drewN _) (Nat.add_assoc _ _ _))⟩)) | (go_at_call 83; (with_reducible refine (spec_l02Left.calls k ad x 60 u _ ?side1 A2.out).mono ?_); (case side1 => repeat (first | exact HP.out | (with_reducible refine Kd.C_alloc ?_ _) | (with_reducible refine Kd.C_drewN ?_ _) | (with_reducible refine Kd.C_drew ?_))); rintro e w' ⟨rfl, ⟨nd, rfl⟩⟩; (try first | exact ⟨rfl, _, World.drewN_drewN _ _ _⟩ | exact ⟨rfl, _, Eq.trans (World.drewN_drewN _ _ _) (congrArg (World.drewN _) (Nat.add_assoc _ _ _))⟩))); try go_wp2_with (first | (go_at_call 61; (with_reducible refine (spec_l00In.calls a0 1 7 true _ A1.out).mono ?_); rintro e w' ⟨rfl, ⟨nd, rfl⟩⟩; (try first | exact ⟨rfl, _, World.drewN_drewN _ _ _⟩ | exact ⟨rfl, _, Eq.trans (World.drewN_drewN _ _ _) (congrArg (World.drewN _) (Nat.add_assoc _ _ _))⟩)) | (go_at_call 83; (with_reducible refine (spec_l02Left.calls k ad x 60 u _ ?side1 A2.out).mono ?_); (case side1 => repeat (first | exact HP.out | (with_reducible refine Kd.C_alloc ?_ _) | (with_reducible refine Kd.C_drewN ?_ _) | (with_reducible refine Kd.C_drew ?_))); rintro e w' ⟨rfl, ⟨nd, rfl⟩⟩; (try first | exact ⟨rfl, _, World.drewN_drewN _ _ _⟩ | exact ⟨rfl, _, Eq.trans (World.drewN_drewN _ _ _) (congrArg (World.drewN _) (Nat.add_assoc _ _ _))⟩))))
      go_ret
      exact ⟨(by first | rfl | (simp; done) | (simp [*]; done)), by repeat (first | exact Drawn0.refl _ | apply Drawn0.step)⟩

end Go.Proofs.Ytjnobnmjhpmpfaa.P

namespace Go.Proofs.Ytjnobnmjhpmpfaa.P
open Go.RowKit Go.Proofs.YtjnobnmjhpmpfaaW.PrintWords Go.Proofs.YtjnobnmjhpmpfaaW.PrintLast Go.Proofs.YtjnobnmjhpmpfaaW.PrintMore
attribute [local go_sem] max2_int min2_int max_two min_two max_three min_three max_four min_four
set_option linter.unusedVariables false
set_option linter.unusedSimpArgs false

theorem repsApp {α : Type} {R : α → List Value → Prop} {size : Nat} {ps qs : List α} {cs ds : List Value} (h : Reps R size ps cs) (h2 : Reps R size qs ds) : Reps R size (ps ++ qs) (cs ++ ds) := by
  refine ⟨by rw [List.length_append, List.length_append, h.1, h2.1, Nat.add_mul], fun j p hj => ?_⟩
  rcases Nat.lt_or_ge j ps.length with hlt | hge
  · rw [List.getElem?_append_left hlt] at hj
    have h1 : j * size + size ≤ cs.length := by rw [h.1, ← Nat.succ_mul]; exact Nat.mul_le_mul_right _ hlt
    rw [List.drop_append_of_le_length (by omega), List.take_append_of_le_length (by rw [List.length_drop]; omega)]
    exact h.2 j p hj
  · rw [List.getElem?_append_right hge] at hj
    have h3 := h2.2 _ p hj
    have e : (cs ++ ds).drop (j * size) = ds.drop ((j - ps.length) * size) := by
      rw [List.drop_append, List.drop_eq_nil_of_le (by rw [h.1]; exact Nat.mul_le_mul_right _ hge), List.nil_append, h.1, ← Nat.sub_mul]
    rw [e]
    exact h3
theorem repsOne {α : Type} {R : α → List Value → Prop} {size : Nat} (hs : 0 < size) {ps : List α} {cs : List Value} (h : Reps R size ps cs) (h1 : ∀ p c, R p c → ∀ u ∈ c, u.oneCell' = true) : ∀ u ∈ cs, u.oneCell' = true := by
  intro u hu
  obtain ⟨j, hj, rfl⟩ := List.getElem_of_mem hu
  have hl := h.1
  have hq : j / size < ps.length := by rw [Nat.div_lt_iff_lt_mul hs, ← hl]; exact hj
  have h2 := h.2 (j / size) ps[j / size] (List.getElem?_eq_getElem hq)
  have hjm : j / size * size + j % size = j := by rw [Nat.mul_comm]; exact Nat.div_add_mod j size
  refine h1 _ _ h2 _ (List.mem_iff_getElem?.2 ⟨j % size, ?_⟩)
  rw [List.getElem?_take, if_pos (Nat.mod_lt _ hs), List.getElem?_drop, hjm, List.getElem?_eq_getElem hj]
theorem zipIdxTo {α : Type} (xs : List α) (n j : Nat) (p : α × Nat) (h : (xs.zipIdx n)[j]? = some p) : xs.zipIdx[j]? = some (p.1, j) ∧ p.2 = n + j := by
  rw [List.getElem?_zipIdx] at h ⊢
  obtain ⟨x, hx, rfl⟩ := Option.map_eq_some_iff.1 h
  rw [hx]
  exact ⟨by simp, rfl⟩
section
variable {P : Program} {ops : Array Oper} {rest : List Oper} {o : Oper} {a : Act} {Q : Exit → Act → World → Prop} {α : Type}
open Classical in
/-- append(v, ys...), behind 'at_builtin': ys is a row of one's own, none of its blocks is v's; its elements are v's from then on. -/
theorem appRowS (d : Kd α) {w0 W : World} (base : Nat) (hgd : o.guard = none) (s x : Operand) (t e : TypeId) (z : Value) (bytes : Nat)
    (ho : o.op = .call { callee := .builtin .append, args := #[s, x], argTypes := #[t, t] })
    (ht : P.underlying t = some (.slice e)) (hinfo : (P.info? e).map (fun i => (i.zero, i.size, i.bytes)) = some (some z, d.sz, bytes)) (hz : z.cells.size = d.sz) (hs0 : 0 < d.sz) (hb0 : 0 < bytes)
    (v : Value) (xs ys : List α) (ad : Addr) (m c : Nat) (ok okp : Nat → Prop) (hs : a.eval s = v) (hx : a.eval x = .slice (some ad) m c)
    (HY : Kd.S d e W base okp (.slice (some ad) m c) ys) (hokp : ∀ k, okp k → ok k ∧ some k ≠ v.ownBlock) (hfresh : ∀ k, W.heap.size ≤ k → ok k)
    (HO : Kd.S d e W base (fun k => ok k ∧ ¬ okp k) v xs) (HB : Below base w0 W) (hbase : base ≤ W.heap.size) (hl : (xs.length + ys.length) * bytes ≤ 140737488355328)
    (h : ∀ v1 w1, Kd.S d e w1 base ok v1 (xs ++ ys) → Below base w0 w1 → W.grownBy w1 v.ownBlock → (v1.ownBlock = v.ownBlock ∨ ∃ b, v1.ownBlock = some b ∧ W.heap.size ≤ b) → wpList P ops Q rest (a.put o.dst v1) w1) :
    wpList P ops Q (o :: rest) a W := by
  have hm := (Kd.S_reads' HY).1
  subst hm
  obtain ⟨g, rfl⟩ := Kd.R_head (Kd.S_R HY)
  obtain ⟨f, h0, inner, hown, hr⟩ := HO
  obtain ⟨f2, h02, inner2, hown2, hr2⟩ := HY
  rw [List.length_zipIdx] at hown hown2
  obtain ⟨i0, hi, hzz⟩ := Option.map_eq_some_iff.1 hinfo
  simp only [Prod.mk.injEq] at hzz
  obtain ⟨hz0, hz1, hz2⟩ := hzz
  have hlen : xs.length + ys.length ≤ 140737488355328 := Nat.le_trans (Nat.le_mul_of_pos_right _ hb0) hl
  have hone : ∀ u ∈ inner2, u.oneCell' = true := repsOne hs0 hr2 (fun p c hp => d.K_one (d.K_of_M hp))
  have hil : inner2.length = ys.length * d.sz := by have := hr2.1; rw [List.length_zipIdx] at this; exact this
  obtain ⟨v1, w1, hrun, hown1, hg, _, hat0⟩ := run_append_own_at (P := P) W base t o.type e i0 z d.sz bytes ht hi hz0 hz1 hz2 hz hs0 v xs.length inner hown ⟨g, 0, none⟩ ys.length c inner2 hil
    (fun j u hu => hown2.cells (g := g) (by simp [Value.ownBlock]) j u hu) hone (by simp only [maxLen]; omega) hl hbase
  have hat : v1.ownBlock = v.ownBlock ∨ ∃ b, v1.ownBlock = some b ∧ W.heap.size ≤ b := by
    rcases hat0 with hat | hat
    · exact .inl hat
    · exact .inr ⟨_, hat, Nat.le_refl _⟩
  refine wpList_plain hgd fun K hK => ?_
  unfold Oper.wp execOp
  simp only [ho, resolve, invoke, builtin, Sem.run_bind, Sem.run_pure, Result.andThen_ok, List.map_toArray, List.map_cons, List.map_nil, hs, hx, hrun]
  refine hK _ _ (h v1 w1 ?_ (HB.grown hg hbase (own_base hown)) hg hat)
  have hne : ∀ k, some k ≠ v.ownBlock → k < W.heap.size → some k ≠ v1.ownBlock := by
    intro k hk hlt
    rcases hat with hat | ⟨b, hb, hle⟩
    · rw [hat]; exact hk
    · rw [hb]
      intro he
      injection he with he
      omega
  have step : ∀ {q : α} {c : List Value} {o' ok' : Nat → Prop}, d.M W base o' q c → (∀ k, o' k → some k ≠ v.ownBlock ∧ ok' k) → d.M w1 base (fun k => ok' k ∧ some k ≠ v1.ownBlock) q c := by
    intro q c o' ok' hq ho'
    have h1 := d.M_move (w1 := w1) (fun k hk => hg.block k hk.2.2.1 (ho' k hk.1).1) (d.M_bound hq)
    exact d.M_mono (fun k hk => ⟨(ho' k hk.1).2, hne k (ho' k hk.1).1 hk.2.2.1⟩) h1
  refine ⟨fun k => if okp k then f2 k + xs.length else f k, fun k hk => ?_, inner ++ inner2, by rw [List.length_zipIdx, List.length_append]; exact hown1, ?_⟩
  · rcases hat with hat | ⟨b, hb, hle⟩
    · exact (h0 k (hat ▸ hk)).1
    · rw [hb] at hk
      injection hk with hk
      exact hfresh k (by omega)
  · rw [List.zipIdx_append]
    refine repsApp (hr.imp_ (fun p c hp => ?_)) ⟨by rw [List.length_zipIdx]; exact hil, fun j p hj => ?_⟩
    · exact d.M_mono (fun k hk => ⟨⟨hk.1.1, hk.2⟩, hk.1.2⟩) (step (ok' := fun k => ok k ∧ (if okp k then f2 k + xs.length else f k) = p.2) hp (fun k hk => ⟨hk.1.2, hk.1.1.1, (if_neg hk.1.1.2).trans hk.2⟩))
    · obtain ⟨hj1, hj2⟩ := zipIdxTo ys _ j p hj
      have hp := hr2.2 j _ hj1
      refine d.M_mono (fun k hk => ⟨⟨hk.1.1, hk.2⟩, hk.1.2⟩) (step (ok' := fun k => ok k ∧ (if okp k then f2 k + xs.length else f k) = p.2) hp (fun k hk => ⟨(hokp k hk.1.1).2, (hokp k hk.1.1).1, (if_pos hk.1.1).trans ?_⟩))
      have h3 : f2 k = j := hk.2
      omega
end

end Go.Proofs.Ytjnobnmjhpmpfaa.P

namespace Go.Proofs.Ytjnobnmjhpmpfaa.P
open Go.RowKit Go.Proofs.YtjnobnmjhpmpfaaW.PrintWords Go.Proofs.YtjnobnmjhpmpfaaW.PrintLast Go.Proofs.YtjnobnmjhpmpfaaW.PrintMore
attribute [local go_sem] max2_int min2_int max_two min_two max_three min_three max_four min_four
set_option linter.unusedVariables false
set_option linter.unusedSimpArgs false

/-! ### impl_Gate_isLeaf: function 86 -/
def impl_Gate_isLeaf.f (a0_0 : Int) (a0_1 : Int) (l0_2 : List (S29)) : Option (Bool) := some ((l0_2.length : Int) == 0)
set_option maxHeartbeats 8000000 in
set_option maxRecDepth 100000 in
theorem impl_Gate_isLeaf.calls (a0_0 : Int) (a0_1 : Int) (A0_2 : Option Addr) (c0_2 : Nat) (l0_2 : List (S29)) (r : Bool) (w : World) (hr0_2 : Kd.C k29 w A0_2 l0_2.length l0_2) (hc0_2 : l0_2.length ≤ c0_2) (h : impl_Gate_isLeaf.f a0_0 a0_1 l0_2 = some r) :
    Calls Try.prog 86 #[.agg #[.int .i64 a0_0, .int .i64 a0_1, .slice A0_2 l0_2.length c0_2]] w fun e w' => e = .returned (.bool r) ∧ Below w.heap.size w w' := by
  have hu29 := Try.underlying29
  have HR0_2 := Aside0.mk hr0_2
  have HC0_2 := Aside0.mk hc0_2
  clear hr0_2 hc0_2
  have HB := Aside0.mk (Below.refl w.heap.size w)
  have H : (some ((l0_2.length : Int) == 0)) = some r := h
  clear h
  obtain rfl := Option.some.inj H
  go_enter Try.func86, Try.ntmps86
  go_wp2_with (first | ((with_reducible refine gate_dst (N := 1) rfl ?_); refine box_event ?hg (N := 1) ?hd (cs := #[.int .i64 a0_0, .int .i64 a0_1, .slice A0_2 l0_2.length c0_2]) (t := 29) ?hr ?_; (case hd => rfl); (case hg => rfl); (case hr => first | (go_simp; done) | (go_simp; rfl)); intro gb125 hg w2 hbox hb; have n0_ := Aside0.mk (below_step (by repeat (first | (with_reducible first | exact HB.out | apply below_alloc | apply pw_below_drewN | apply below_drew1) | exact HB.out)) hb); have n1_ := Aside0.mk (hbox); have n2_ := Aside0.mk ((by rw [hg]; exact (below_size (by repeat (first | (with_reducible first | exact HB.out | apply below_alloc | apply pw_below_drewN | apply below_drew1) | exact HB.out))) : w.heap.size ≤ gb125)); have n3_ := Aside0.mk ((by rw [hg]; exact (below_size (by repeat (first | (with_reducible first | exact HB.out | apply below_alloc | apply pw_below_drewN | apply below_drew1) | exact HB.out))) : w.heap.size ≤ gb125)); clear HB; have HB := n0_; have BK125 := n1_; have GW125 := n2_; have GE125 := n3_; clear n0_ n1_ n2_ n3_; clear hb hbox hg; have hcz3_0 : w2.cell? ⟨gb125, 0, none⟩ = some (.int .i64 a0_0) := (blk_cell BK125.out 0).trans rfl; have hcz3_1 : w2.cell? ⟨gb125, 1, none⟩ = some (.int .i64 a0_1) := (blk_cell BK125.out 1).trans rfl; have hcz3_2 : w2.cell? ⟨gb125, 2, none⟩ = some (.slice A0_2 l0_2.length c0_2) := (blk_cell BK125.out 2).trans rfl; have hfz3_0 := blk_frozen BK125.out 0; have hfz3_1 := blk_frozen BK125.out 1; have hfz3_2 := blk_frozen BK125.out 2))
  go_ret
  exact ⟨by first | rfl | (simp [errW_none, errW_some] <;> rfl) | (simp [*, errW_none, errW_some] <;> rfl), by repeat (first | (with_reducible first | exact HB.out | apply below_alloc | apply pw_below_drewN | apply below_drew1 | refine below_set ?_ GE125.out) | exact HB.out)⟩

end Go.Proofs.Ytjnobnmjhpmpfaa.P

namespace Go.Proofs.Ytjnobnmjhpmpfaa.P
open Go.RowKit Go.Proofs.YtjnobnmjhpmpfaaW.PrintWords Go.Proofs.YtjnobnmjhpmpfaaW.PrintLast Go.Proofs.YtjnobnmjhpmpfaaW.PrintMore
attribute [local go_sem] max2_int min2_int max_two min_two max_three min_three max_four min_four
set_option linter.unusedVariables false
set_option linter.unusedSimpArgs false

mutual
def mapB.l0 {σ : Type} (leafF : Nat → σ → Int → Option (S29 × σ)) (innerF : Nat → Int → List S29 → Option S29) : Nat → σ → List S29 → Int → List S29 → Int → Option (S29 × σ)
  | 0, _, _, _, _, _ => none
  | k + 1, s, ks, least, out, i => if i < (ks.length : Int) then (if 0 ≤ i then ((mapB.f leafF innerF k s (rd_T29 ks i)).bind fun t => if out.length < 1048576 then mapB.l0 leafF innerF k t.2 ks least (out ++ [t.1]) (wrap64 (i + 1)) else none) else none) else ((innerF k least out).bind fun y => some (y, s))
def mapB.f {σ : Type} (leafF : Nat → σ → Int → Option (S29 × σ)) (innerF : Nat → Int → List S29 → Option S29) : Nat → σ → S29 → Option (S29 × σ)
  | 0, _, _ => none
  | k + 1, s, x => if (x.f2.length : Int) = 0 then leafF k s x.f0 else mapB.l0 leafF innerF k s x.f2 x.f1 [] 0
end
/-- What mapped asks of its two closures. -/
structure MapHyp {σ : Type} (w0 : World) (N0 : Nat) (SO : Nat → Prop) (Inv : σ → World → Prop) (leafF : Nat → σ → Int → Option (S29 × σ)) (innerF : Nat → Int → List S29 → Option S29) (gl gi : Nat) (lbl lbi : Array Value) : Prop where
  n0 : w0.heap.size ≤ N0
  so : ∀ k, SO k → k < N0
  step : ∀ s (W W' : World), Inv s W → (∀ k, k < N0 → W'.heap[k]? = W.heap[k]?) → Inv s W'
  el : ∀ args w, (callFunc gl args).run Try.prog w = .ok (.enter gl args) w
  ei : ∀ args w, (callFunc gi args).run Try.prog w = .ok (.enter gi args) w
  leaf : ∀ (j : Nat) (s s' : σ) (h : Int) (y : S29) (W : World), leafF j s h = some (y, s') → Below w0.heap.size w0 W → N0 ≤ W.heap.size → Inv s W → Calls Try.prog gl (#[.int .i64 h] ++ lbl) W fun e w' => ∃ v, e = .returned (.agg #[.int .i64 y.f0, .int .i64 y.f1, v]) ∧ Kd.S kG 29 w' W.heap.size (fun _ => True) v y.f2 ∧ Below w0.heap.size w0 w' ∧ Kept W w' SO ∧ Inv s' w'
  inner : ∀ (j : Nat) (least : Int) (kids : List S29) (y : S29) (s : σ) (A : Option Addr) (n c b : Nat) (ok : Nat → Prop) (W : World), innerF j least kids = some y → Below w0.heap.size w0 W → N0 ≤ b → b ≤ W.heap.size → Inv s W → Kd.S kG 29 W b ok (.slice A n c) kids → Calls Try.prog gi (#[.int .i64 least, .slice A n c] ++ lbi) W fun e w' => ∃ v, e = .returned (.agg #[.int .i64 y.f0, .int .i64 y.f1, v]) ∧ Kd.S kG 29 w' b (fun k => ok k ∨ W.heap.size ≤ k) v y.f2 ∧ Below w0.heap.size w0 w' ∧ Kept W w' SO ∧ Inv s w'
set_option maxHeartbeats 8000000 in
set_option maxRecDepth 100000 in
theorem mapB.calls {σ : Type} {w0 : World} {N0 : Nat} {SO : Nat → Prop} {Inv : σ → World → Prop} {leafF : Nat → σ → Int → Option (S29 × σ)} {innerF : Nat → Int → List S29 → Option S29} {gl gi : Nat} {lbl lbi : Array Value} (H : MapHyp w0 N0 SO Inv leafF innerF gl gi lbl lbi) (k : Nat) : ∀ (s s' : σ) (x y : S29) (A : Option Addr) (c : Nat) (w : World) (hB : Below w0.heap.size w0 w) (hN : N0 ≤ w.heap.size) (hi : Inv s w) (hr : Kd.C k29 w0 A x.f2.length x.f2) (hc : x.f2.length ≤ c) (h : mapB.f leafF innerF k s x = some (y, s')),
    Calls Try.prog 53 #[.agg #[.int .i64 x.f0, .int .i64 x.f1, .slice A x.f2.length c], .func (.func gl) #[] lbl, .func (.func gi) #[] lbi] w fun e w' => ∃ v, e = .returned (.agg #[.int .i64 y.f0, .int .i64 y.f1, v]) ∧ Kd.S kG 29 w' w.heap.size (fun _ => True) v y.f2 ∧ Below w0.heap.size w0 w' ∧ Kept w w' SO ∧ Inv s' w' := by
  induction k using Nat.strongRecOn with
  | _ k ih =>
  intro s s' x y A c w hB hN hi hr hc h
  cases k with
  | zero => exact absurd h (by simp [mapB.f])
  | succ k =>
  simp only [mapB.f] at h
  have el := H.el
  have ei := H.ei
  have IH := Aside0.mk ih
  have HR := Aside0.mk hr
  have HC := Aside0.mk hc
  have HB := Aside0.mk hB
  have HN := Aside0.mk hN
  have HI := Aside0.mk hi
  have HX := Aside0.mk (Below.refl w.heap.size w)
  clear ih hr hc hB hN hi
  have hu29 := Try.underlying29
  by_cases c0 : (x.f2.length : Int) = 0
  · rw [if_pos c0] at h
    have A1 := Aside0.mk h
    clear h
    have AL : Aside0 (impl_Gate_isLeaf.f x.f0 x.f1 x.f2 = some true) := ⟨by unfold impl_Gate_isLeaf.f; rw [c0]; rfl⟩
    clear c0
    go_enter Try.func53, Try.ntmps53
    go_wp2_with (first | ((with_reducible refine gate_dst (N := 3) rfl ?_); refine box_event ?hg (N := 3) ?hd (cs := #[.int .i64 x.f0, .int .i64 x.f1, .slice A x.f2.length c]) (t := 29) ?hr ?_; (case hd => rfl); (case hg => rfl); (case hr => first | (go_simp; done) | (go_simp; rfl)); intro g3 hg w1 hbox hb; have n0_ := Aside0.mk (below_step (by repeat (first | (with_reducible first | exact HX.out | apply below_alloc | apply pw_below_drewN | apply below_drew1) | exact HX.out)) hb); have GW_g3 := Aside0.mk ((by rw [hg]; exact below_size (by repeat (first | (with_reducible first | exact HX.out | apply below_alloc | apply pw_below_drewN | apply below_drew1) | exact HX.out))) : w.heap.size ≤ g3); clear HX ; have HX := n0_; clear n0_; have BK_g3 := Aside0.mk hbox; clear hbox hb hg; have hz_g30 : w1.cell? ⟨g3, 0, none⟩ = some (.int .i64 x.f0) := (blk_cell BK_g3.out 0).trans rfl; have hz_g3f0 := blk_frozen BK_g3.out 0; have hz_g31 : w1.cell? ⟨g3, 1, none⟩ = some (.int .i64 x.f1) := (blk_cell BK_g3.out 1).trans rfl; have hz_g3f1 := blk_frozen BK_g3.out 1; have hz_g32 : w1.cell? ⟨g3, 2, none⟩ = some (.slice A x.f2.length c) := (blk_cell BK_g3.out 2).trans rfl; have hz_g3f2 := blk_frozen BK_g3.out 2) | ((with_reducible refine gate_dst (N := 6) rfl ?_); refine box_event ?hg (N := 6) ?hd (cs := #[.int .i64 0, .int .i64 0, .slice none 0 0]) (t := 29) ?hr ?_; (case hd => rfl); (case hg => rfl); (case hr => first | (go_simp; done) | (go_simp; rfl)); intro g6 hg w2 hbox hb; have n0_ := Aside0.mk (below_step (by repeat (first | (with_reducible first | exact HX.out | apply below_alloc | apply pw_below_drewN | apply below_drew1) | exact HX.out)) hb); have n1_ := Aside0.mk (blk_below (g := g3) (o := .cells #[.int .i64 x.f0, .int .i64 x.f1, .slice A x.f2.length c] 29 (0, 0)) (by (with_reducible repeat (first | refine blk_drewN ?_ _ | refine blk_drew ?_ | refine blk_alloc ?_ _)); exact BK_g3.out) hb); have GW_g6 := Aside0.mk ((by rw [hg]; exact below_size (by repeat (first | (with_reducible first | exact HX.out | apply below_alloc | apply pw_below_drewN | apply below_drew1) | exact HX.out))) : w.heap.size ≤ g6); have HLT := Aside0.mk (show g3 < g6 from by rw [hg]; exact blk_lt (o := .cells #[.int .i64 x.f0, .int .i64 x.f1, .slice A x.f2.length c] 29 (0, 0)) (by (with_reducible repeat (first | refine blk_drewN ?_ _ | refine blk_drew ?_ | refine blk_alloc ?_ _)); exact BK_g3.out)); clear HX BK_g3; have HX := n0_; clear n0_; (try clear hz_g30 hz_g3f0 hz_g31 hz_g3f1 hz_g32 hz_g3f2); have BK_g3 := n1_; clear n1_; have BK_g6 := Aside0.mk hbox; clear hbox hb hg; have hz_g30 : w2.cell? ⟨g3, 0, none⟩ = some (.int .i64 x.f0) := (blk_cell BK_g3.out 0).trans rfl; have hz_g3f0 := blk_frozen BK_g3.out 0; have hz_g31 : w2.cell? ⟨g3, 1, none⟩ = some (.int .i64 x.f1) := (blk_cell BK_g3.out 1).trans rfl; have hz_g3f1 := blk_frozen BK_g3.out 1; have hz_g32 : w2.cell? ⟨g3, 2, none⟩ = some (.slice A x.f2.length c) := (blk_cell BK_g3.out 2).trans rfl; have hz_g3f2 := blk_frozen BK_g3.out 2; have hz_g60 : w2.cell? ⟨g6, 0, none⟩ = some (.int .i64 0) := (blk_cell BK_g6.out 0).trans rfl; have hz_g6f0 := blk_frozen BK_g6.out 0; have hz_g61 : w2.cell? ⟨g6, 1, none⟩ = some (.int .i64 0) := (blk_cell BK_g6.out 1).trans rfl; have hz_g6f1 := blk_frozen BK_g6.out 1; have hz_g62 : w2.cell? ⟨g6, 2, none⟩ = some (.slice none 0 0) := (blk_cell BK_g6.out 2).trans rfl; have hz_g6f2 := blk_frozen BK_g6.out 2) | (go_at_call 86; (with_reducible refine (impl_Gate_isLeaf.calls x.f0 x.f1 _ _ x.f2 true _ ?side1 ?side2 AL.out).mono ?_); (case side1 => exact Kd.C_below HR.out (below_step HB.out (by repeat (first | (with_reducible first | exact HX.out | apply below_alloc | apply pw_below_drewN | apply below_drew1) | exact HX.out)))); (case side2 => exact HC.out); rintro e w3 ⟨rfl, hb⟩; have n0_ := Aside0.mk (below_step (by repeat (first | (with_reducible first | exact HX.out | apply below_alloc | apply pw_below_drewN | apply below_drew1) | exact HX.out)) hb); have n1_ := Aside0.mk (blk_below (g := g3) (o := .cells #[.int .i64 x.f0, .int .i64 x.f1, .slice A x.f2.length c] 29 (0, 0)) (by (with_reducible repeat (first | refine blk_drewN ?_ _ | refine blk_drew ?_ | refine blk_alloc ?_ _)); exact BK_g3.out) hb); have n2_ := Aside0.mk (blk_below (g := g6) (o := .cells #[.int .i64 0, .int .i64 0, .slice none 0 0] 29 (0, 0)) (by (with_reducible repeat (first | refine blk_drewN ?_ _ | refine blk_drew ?_ | refine blk_alloc ?_ _)); exact BK_g6.out) hb); clear HX BK_g3 BK_g6 hz_g30 hz_g3f0 hz_g31 hz_g3f1 hz_g32 hz_g3f2 hz_g60 hz_g6f0 hz_g61 hz_g6f1 hz_g62 hz_g6f2 hb; have HX := n0_; have BK_g3 := n1_; have BK_g6 := n2_; clear n0_ n1_ n2_; have hz_g30 : w3.cell? ⟨g3, 0, none⟩ = some (.int .i64 x.f0) := (blk_cell BK_g3.out 0).trans rfl; have hz_g3f0 := blk_frozen BK_g3.out 0; have hz_g31 : w3.cell? ⟨g3, 1, none⟩ = some (.int .i64 x.f1) := (blk_cell BK_g3.out 1).trans rfl; have hz_g3f1 := blk_frozen BK_g3.out 1; have hz_g32 : w3.cell? ⟨g3, 2, none⟩ = some (.slice A x.f2.length c) := (blk_cell BK_g3.out 2).trans rfl; have hz_g3f2 := blk_frozen BK_g3.out 2; have hz_g60 : w3.cell? ⟨g6, 0, none⟩ = some (.int .i64 0) := (blk_cell BK_g6.out 0).trans rfl; have hz_g6f0 := blk_frozen BK_g6.out 0; have hz_g61 : w3.cell? ⟨g6, 1, none⟩ = some (.int .i64 0) := (blk_cell BK_g6.out 1).trans rfl; have hz_g6f1 := blk_frozen BK_g6.out 1; have hz_g62 : w3.cell? ⟨g6, 2, none⟩ = some (.slice none 0 0) := (blk_cell BK_g6.out 2).trans rfl; have hz_g6f2 := blk_frozen BK_g6.out 2) | (go_at_fn gl; refine (H.leaf k s s' x.f0 y _ A1.out (below_step HB.out (by repeat (first | (with_reducible first | exact HX.out | apply below_alloc | apply pw_below_drewN | apply below_drew1) | exact HX.out))) (Nat.le_trans HN.out (below_size (by repeat (first | (with_reducible first | exact HX.out | apply below_alloc | apply pw_below_drewN | apply below_drew1) | exact HX.out)))) (H.step _ _ _ HI.out (fun k_ hk_ => (show Below w.heap.size w _ from (by repeat (first | (with_reducible first | exact HX.out | apply below_alloc | apply pw_below_drewN | apply below_drew1) | exact HX.out))).block k_ (Nat.lt_of_lt_of_le hk_ HN.out)))).mono ?_; rintro e w4 ⟨v, rfl, hS, hB4, hk4, hi4⟩; have HS4 := Aside0.mk (Kd.S_mono (Kd.S_bound hS) (ok' := fun k_ => g6 < k_) (fun k_ hk_ => by have h1_ := hk_.2.1; have h2_ := blk_lt BK_g6.out; (try simp at h1_); omega)); have HS4b := Aside0.mk (Kd.S_lower (base' := w.heap.size) HS4.out (below_size (by repeat (first | (with_reducible first | exact HX.out | apply below_alloc | apply pw_below_drewN | apply below_drew1) | exact HX.out)))); have HB4 := Aside0.mk hB4; have HK4 := Aside0.mk (Kept.then_ (Kept.of_below (show Below w.heap.size w _ from (by repeat (first | (with_reducible first | exact HX.out | apply below_alloc | apply pw_below_drewN | apply below_drew1) | exact HX.out))) SO) hk4 (fun _ h_ => .inl h_)); have HI4 := Aside0.mk hi4; have n2_ := Aside0.mk (blk_kept (g := g6) (o := .cells #[.int .i64 0, .int .i64 0, .slice none 0 0] 29 (0, 0)) (by (with_reducible repeat (first | refine blk_drewN ?_ _ | refine blk_drew ?_ | refine blk_alloc ?_ _)); exact BK_g6.out) hk4 (fun h_ => by have h1_ := H.so _ h_; have := GW_g6.out; have := HN.out; omega)); obtain ⟨Av, cv, ev⟩ := Kd.S_slice HS4.out; subst ev; clear hS hB4 hk4 hi4 HS4 BK_g3 BK_g6 hz_g30 hz_g3f0 hz_g31 hz_g3f1 hz_g32 hz_g3f2 hz_g60 hz_g6f0 hz_g61 hz_g6f1 hz_g62 hz_g6f2; have BK_g6 := n2_; clear n2_; have hz_g60 : w4.cell? ⟨g6, 0, none⟩ = some (.int .i64 0) := (blk_cell BK_g6.out 0).trans rfl; have hz_g6f0 := blk_frozen BK_g6.out 0; have hz_g61 : w4.cell? ⟨g6, 1, none⟩ = some (.int .i64 0) := (blk_cell BK_g6.out 1).trans rfl; have hz_g6f1 := blk_frozen BK_g6.out 1; have hz_g62 : w4.cell? ⟨g6, 2, none⟩ = some (.slice none 0 0) := (blk_cell BK_g6.out 2).trans rfl; have hz_g6f2 := blk_frozen BK_g6.out 2))
    refine bodyPost_ret (results_cell_row rfl _ _ g6 29 #[.int .i64 y.f0, .int .i64 y.f1, .slice Av y.f2.length cv] (0, 0) _ rfl (by (with_reducible repeat (first | refine blk_drewN ?_ _ | refine blk_drew ?_ | refine blk_alloc ?_ _)); refine blk_put (cs := #[.int .i64 y.f0, .int .i64 y.f1, .slice none 0 0]) ?_ 2 _ rfl; (with_reducible repeat (first | refine blk_drewN ?_ _ | refine blk_drew ?_ | refine blk_alloc ?_ _)); refine blk_put (cs := #[.int .i64 y.f0, .int .i64 0, .slice none 0 0]) ?_ 1 _ rfl; (with_reducible repeat (first | refine blk_drewN ?_ _ | refine blk_drew ?_ | refine blk_alloc ?_ _)); refine blk_put (cs := #[.int .i64 0, .int .i64 0, .slice none 0 0]) ?_ 0 _ rfl; (with_reducible repeat (first | refine blk_drewN ?_ _ | refine blk_drew ?_ | refine blk_alloc ?_ _)); exact BK_g6.out) Try.underlying29 rfl (by kernel_rfl)) rfl ?_
    have hg0 : w0.heap.size ≤ g6 := by have := H.n0; have := HN.out; have := GW_g6.out; omega
    refine ⟨_, rfl, Kd.S_mono (Kd.S_far (p := ⟨g6, 2, none⟩) (Kd.S_far (p := ⟨g6, 1, none⟩) (Kd.S_far (p := ⟨g6, 0, none⟩) HS4b.out (fun k_ hk_ => by have h_ : g6 < k_ := hk_; show k_ ≠ g6; omega) _) (fun k_ hk_ => by have h_ : g6 < k_ := hk_; show k_ ≠ g6; omega) _) (fun k_ hk_ => by have h_ : g6 < k_ := hk_; show k_ ≠ g6; omega) _) (fun _ _ => trivial), below_set (below_set (below_set HB4.out hg0) hg0) hg0, Kept.setCell (Kept.setCell (Kept.setCell HK4.out (.inr GW_g6.out) _) (.inr GW_g6.out) _) (.inr GW_g6.out) _, H.step _ _ _ HI4.out (fun k_ hk_ => ?_)⟩
    have hkn : k_ ≠ g6 := by have := GW_g6.out; have := HN.out; omega
    rw [Below.heap_setCell _ _ _ _ hkn, Below.heap_setCell _ _ _ _ hkn, Below.heap_setCell _ _ _ _ hkn]
  · rw [if_neg c0] at h
    have A1 := Aside0.mk h
    clear h
    have AL : Aside0 (impl_Gate_isLeaf.f x.f0 x.f1 x.f2 = some false) := ⟨by unfold impl_Gate_isLeaf.f; rw [beq_eq_false_iff_ne.mpr c0]⟩
    clear c0
    go_enter Try.func53, Try.ntmps53
    go_wp2_with (first | ((with_reducible refine gate_dst (N := 3) rfl ?_); refine box_event ?hg (N := 3) ?hd (cs := #[.int .i64 x.f0, .int .i64 x.f1, .slice A x.f2.length c]) (t := 29) ?hr ?_; (case hd => rfl); (case hg => rfl); (case hr => first | (go_simp; done) | (go_simp; rfl)); intro g3 hg w1 hbox hb; have n0_ := Aside0.mk (below_step (by repeat (first | (with_reducible first | exact HX.out | apply below_alloc | apply pw_below_drewN | apply below_drew1) | exact HX.out)) hb); have GW_g3 := Aside0.mk ((by rw [hg]; exact below_size (by repeat (first | (with_reducible first | exact HX.out | apply below_alloc | apply pw_below_drewN | apply below_drew1) | exact HX.out))) : w.heap.size ≤ g3); clear HX ; have HX := n0_; clear n0_; have BK_g3 := Aside0.mk hbox; clear hbox hb hg; have hz_g30 : w1.cell? ⟨g3, 0, none⟩ = some (.int .i64 x.f0) := (blk_cell BK_g3.out 0).trans rfl; have hz_g3f0 := blk_frozen BK_g3.out 0; have hz_g31 : w1.cell? ⟨g3, 1, none⟩ = some (.int .i64 x.f1) := (blk_cell BK_g3.out 1).trans rfl; have hz_g3f1 := blk_frozen BK_g3.out 1; have hz_g32 : w1.cell? ⟨g3, 2, none⟩ = some (.slice A x.f2.length c) := (blk_cell BK_g3.out 2).trans rfl; have hz_g3f2 := blk_frozen BK_g3.out 2) | ((with_reducible refine gate_dst (N := 6) rfl ?_); refine box_event ?hg (N := 6) ?hd (cs := #[.int .i64 0, .int .i64 0, .slice none 0 0]) (t := 29) ?hr ?_; (case hd => rfl); (case hg => rfl); (case hr => first | (go_simp; done) | (go_simp; rfl)); intro g6 hg w2 hbox hb; have n0_ := Aside0.mk (below_step (by repeat (first | (with_reducible first | exact HX.out | apply below_alloc | apply pw_below_drewN | apply below_drew1) | exact HX.out)) hb); have n1_ := Aside0.mk (blk_below (g := g3) (o := .cells #[.int .i64 x.f0, .int .i64 x.f1, .slice A x.f2.length c] 29 (0, 0)) (by (with_reducible repeat (first | refine blk_drewN ?_ _ | refine blk_drew ?_ | refine blk_alloc ?_ _)); exact BK_g3.out) hb); have GW_g6 := Aside0.mk ((by rw [hg]; exact below_size (by repeat (first | (with_reducible first | exact HX.out | apply below_alloc | apply pw_below_drewN | apply below_drew1) | exact HX.out))) : w.heap.size ≤ g6); have HLT := Aside0.mk (show g3 < g6 from by rw [hg]; exact blk_lt (o := .cells #[.int .i64 x.f0, .int .i64 x.f1, .slice A x.f2.length c] 29 (0, 0)) (by (with_reducible repeat (first | refine blk_drewN ?_ _ | refine blk_drew ?_ | refine blk_alloc ?_ _)); exact BK_g3.out)); clear HX BK_g3; have HX := n0_; clear n0_; (try clear hz_g30 hz_g3f0 hz_g31 hz_g3f1 hz_g32 hz_g3f2); have BK_g3 := n1_; clear n1_; have BK_g6 := Aside0.mk hbox; clear hbox hb hg; have hz_g30 : w2.cell? ⟨g3, 0, none⟩ = some (.int .i64 x.f0) := (blk_cell BK_g3.out 0).trans rfl; have hz_g3f0 := blk_frozen BK_g3.out 0; have hz_g31 : w2.cell? ⟨g3, 1, none⟩ = some (.int .i64 x.f1) := (blk_cell BK_g3.out 1).trans rfl; have hz_g3f1 := blk_frozen BK_g3.out 1; have hz_g32 : w2.cell? ⟨g3, 2, none⟩ = some (.slice A x.f2.length c) := (blk_cell BK_g3.out 2).trans rfl; have hz_g3f2 := blk_frozen BK_g3.out 2; have hz_g60 : w2.cell? ⟨g6, 0, none⟩ = some (.int .i64 0) := (blk_cell BK_g6.out 0).trans rfl; have hz_g6f0 := blk_frozen BK_g6.out 0; have hz_g61 : w2.cell? ⟨g6, 1, none⟩ = some (.int .i64 0) := (blk_cell BK_g6.out 1).trans rfl; have hz_g6f1 := blk_frozen BK_g6.out 1; have hz_g62 : w2.cell? ⟨g6, 2, none⟩ = some (.slice none 0 0) := (blk_cell BK_g6.out 2).trans rfl; have hz_g6f2 := blk_frozen BK_g6.out 2) | (go_at_call 86; (with_reducible refine (impl_Gate_isLeaf.calls x.f0 x.f1 _ _ x.f2 false _ ?side1 ?side2 AL.out).mono ?_); (case side1 => exact Kd.C_below HR.out (below_step HB.out (by repeat (first | (with_reducible first | exact HX.out | apply below_alloc | apply pw_below_drewN | apply below_drew1) | exact HX.out)))); (case side2 => exact HC.out); rintro e w3 ⟨rfl, hb⟩; have n0_ := Aside0.mk (below_step (by repeat (first | (with_reducible first | exact HX.out | apply below_alloc | apply pw_below_drewN | apply below_drew1) | exact HX.out)) hb); have n1_ := Aside0.mk (blk_below (g := g3) (o := .cells #[.int .i64 x.f0, .int .i64 x.f1, .slice A x.f2.length c] 29 (0, 0)) (by (with_reducible repeat (first | refine blk_drewN ?_ _ | refine blk_drew ?_ | refine blk_alloc ?_ _)); exact BK_g3.out) hb); have n2_ := Aside0.mk (blk_below (g := g6) (o := .cells #[.int .i64 0, .int .i64 0, .slice none 0 0] 29 (0, 0)) (by (with_reducible repeat (first | refine blk_drewN ?_ _ | refine blk_drew ?_ | refine blk_alloc ?_ _)); exact BK_g6.out) hb); clear HX BK_g3 BK_g6 hz_g30 hz_g3f0 hz_g31 hz_g3f1 hz_g32 hz_g3f2 hz_g60 hz_g6f0 hz_g61 hz_g6f1 hz_g62 hz_g6f2 hb; have HX := n0_; have BK_g3 := n1_; have BK_g6 := n2_; clear n0_ n1_ n2_; have hz_g30 : w3.cell? ⟨g3, 0, none⟩ = some (.int .i64 x.f0) := (blk_cell BK_g3.out 0).trans rfl; have hz_g3f0 := blk_frozen BK_g3.out 0; have hz_g31 : w3.cell? ⟨g3, 1, none⟩ = some (.int .i64 x.f1) := (blk_cell BK_g3.out 1).trans rfl; have hz_g3f1 := blk_frozen BK_g3.out 1; have hz_g32 : w3.cell? ⟨g3, 2, none⟩ = some (.slice A x.f2.length c) := (blk_cell BK_g3.out 2).trans rfl; have hz_g3f2 := blk_frozen BK_g3.out 2; have hz_g60 : w3.cell? ⟨g6, 0, none⟩ = some (.int .i64 0) := (blk_cell BK_g6.out 0).trans rfl; have hz_g6f0 := blk_frozen BK_g6.out 0; have hz_g61 : w3.cell? ⟨g6, 1, none⟩ = some (.int .i64 0) := (blk_cell BK_g6.out 1).trans rfl; have hz_g6f1 := blk_frozen BK_g6.out 1; have hz_g62 : w3.cell? ⟨g6, 2, none⟩ = some (.slice none 0 0) := (blk_cell BK_g6.out 2).trans rfl; have hz_g6f2 := blk_frozen BK_g6.out 2) | ((with_reducible refine gate_dst (N := 16) rfl ?_); refine Kd.S_lit kG _ 29 ?hg (N := 16) ?hd (xs := ([] : List S29)) (inner := []) (ok := fun k_ => g6 < k_) (okp := fun k_ => g6 < k_) ?hr ?hp (fun _ hk => hk) (blk_lt (o := .cells #[.int .i64 0, .int .i64 0, .slice none 0 0] 29 (0, 0)) (by (with_reducible repeat (first | refine blk_drewN ?_ _ | refine blk_drew ?_ | refine blk_alloc ?_ _)); exact BK_g6.out)) (Below.refl _ _) (Nat.le_refl _) (by simp) ?_; (case hd => rfl); (case hg => rfl); (case hr => first | (go_simp; done) | (go_simp; rfl)); (case hp => exact (Reps.none _ _)); intro v16 w4 ho3 hb hg_ hnew_; clear hg_ hnew_; have n0_ := Aside0.mk (below_step (by repeat (first | (with_reducible first | exact HX.out | apply below_alloc | apply pw_below_drewN | apply below_drew1) | exact HX.out)) hb); have n1_ := Aside0.mk (blk_below (g := g3) (o := .cells #[.int .i64 x.f0, .int .i64 x.f1, .slice A x.f2.length c] 29 (0, 0)) (by (with_reducible repeat (first | refine blk_drewN ?_ _ | refine blk_drew ?_ | refine blk_alloc ?_ _)); exact BK_g3.out) hb); have n2_ := Aside0.mk (blk_below (g := g6) (o := .cells #[.int .i64 0, .int .i64 0, .slice none 0 0] 29 (0, 0)) (by (with_reducible repeat (first | refine blk_drewN ?_ _ | refine blk_drew ?_ | refine blk_alloc ?_ _)); exact BK_g6.out) hb); have HO := Aside0.mk (Kd.S_lower (base' := w.heap.size) ho3 (below_size (by repeat (first | (with_reducible first | exact HX.out | apply below_alloc | apply pw_below_drewN | apply below_drew1) | exact HX.out)))); clear HX BK_g3 BK_g6 hz_g30 hz_g3f0 hz_g31 hz_g3f1 hz_g32 hz_g3f2 hz_g60 hz_g6f0 hz_g61 hz_g6f1 hz_g62 hz_g6f2 hb ho3; have HX := n0_; have BK_g3 := n1_; have BK_g6 := n2_; clear n0_ n1_ n2_; have hz_g30 : w4.cell? ⟨g3, 0, none⟩ = some (.int .i64 x.f0) := (blk_cell BK_g3.out 0).trans rfl; have hz_g3f0 := blk_frozen BK_g3.out 0; have hz_g31 : w4.cell? ⟨g3, 1, none⟩ = some (.int .i64 x.f1) := (blk_cell BK_g3.out 1).trans rfl; have hz_g3f1 := blk_frozen BK_g3.out 1; have hz_g32 : w4.cell? ⟨g3, 2, none⟩ = some (.slice A x.f2.length c) := (blk_cell BK_g3.out 2).trans rfl; have hz_g3f2 := blk_frozen BK_g3.out 2))
    go_loopg [7, 20] k (fun kq v7 v20 w' => ∃ (i : Int) (out : List S29) (sq : σ), v20 = .int .i64 i ∧ Aside0 (mapB.l0 leafF innerF kq sq x.f2 x.f1 out i = some (y, s')) ∧ Aside0 (kq ≤ k) ∧ Aside0 (Kd.S kG 29 w' w.heap.size (fun k_ => g6 < k_) v7 out) ∧ Aside0 (w'.heap[g3]? = some (.cells #[.int .i64 x.f0, .int .i64 x.f1, .slice A x.f2.length c] 29 (0, 0))) ∧ Aside0 (w'.heap[g6]? = some (.cells #[.int .i64 0, .int .i64 0, .slice none 0 0] 29 (0, 0))) ∧ Aside0 (Below w0.heap.size w0 w') ∧ Aside0 (Kept w w' SO) ∧ Aside0 (Inv sq w'))
    case atStart => exact ⟨0, [], s, rfl, A1, ⟨Nat.le_refl _⟩, ⟨by (with_reducible repeat (first | apply Kd.S_alloc | apply Kd.S_drewN | apply Kd.S_drew)); exact HO.out⟩, ⟨(by (with_reducible repeat (first | refine blk_drewN ?_ _ | refine blk_drew ?_ | refine blk_alloc ?_ _)); exact BK_g3.out)⟩, ⟨(by (with_reducible repeat (first | refine blk_drewN ?_ _ | refine blk_drew ?_ | refine blk_alloc ?_ _)); exact BK_g6.out)⟩, ⟨below_step HB.out (by repeat (first | (with_reducible first | exact HX.out | apply below_alloc | apply pw_below_drewN | apply below_drew1) | exact HX.out))⟩, ⟨Kept.of_below (show Below w.heap.size w _ from (by repeat (first | (with_reducible first | exact HX.out | apply below_alloc | apply pw_below_drewN | apply below_drew1) | exact HX.out))) SO⟩, ⟨H.step _ _ _ HI.out (fun k_ hk_ => (show Below w.heap.size w _ from (by repeat (first | (with_reducible first | exact HX.out | apply below_alloc | apply pw_below_drewN | apply below_drew1) | exact HX.out))).block k_ (Nat.lt_of_lt_of_le hk_ HN.out))⟩⟩
    case round =>
      clear A1 HO BK_g3 BK_g6 HX HI HB hz_g30 hz_g3f0 hz_g31 hz_g3f1 hz_g32 hz_g3f2
      obtain ⟨i, out, sq, rfl, HA, HK1, HO, BK_g3, BK_g6, HB4, HK4, HI4⟩ := hrel
      have HWr : Aside0 (w.heap.size ≤ wr.heap.size) := ⟨HK4.out.1⟩
      have HNr : Aside0 (N0 ≤ wr.heap.size) := ⟨Nat.le_trans HN.out HWr.out⟩
      have HLr : Aside0 (g6 < wr.heap.size) := ⟨blk_lt BK_g6.out⟩
      have HXr := Aside0.mk (Below.refl wr.heap.size wr)
      cases gk with
      | zero => exact absurd HA.out (by simp [mapB.l0])
      | succ k1 =>
        have H' := HA.out
        clear HA
        simp only [mapB.l0] at H'
        by_cases c6 : i < (x.f2.length : Int)
        · rw [if_pos c6] at H'
          by_cases c7 : 0 ≤ i
          case neg => rw [if_neg c7] at H'; exact absurd H' (by simp)
          rw [if_pos c7] at H'
          replace H' := Option.bind_eq_some_iff.mp H'
          obtain ⟨⟨ty, ts⟩, At, H'⟩ := H'
          have A7 := Aside0.mk At
          clear At
          dsimp only at H'
          by_cases c8 : out.length < 1048576
          case neg => rw [if_neg c8] at H'; exact absurd H' (by simp)
          rw [if_pos c8] at H'
          have LM := Aside0.mk c8
          have HF := Aside0.mk H'
          clear H' c8
          have c6b0 : decide (i < (x.f2.length : Int)) = true := decide_eq_true c6
          have c7b0 : decide (0 ≤ i) = true := decide_eq_true c7
          obtain ⟨ad, A2, c2, e3, hx0, hx1, hx2, hl2, hi2⟩ := at_T29 HR.out i c7 c6
          cases e3
          replace hx0 := (HB4.out.cell (World.block_lt_of_cell? w0 _ hx0)).trans hx0
          replace hx1 := (HB4.out.cell (World.block_lt_of_cell? w0 _ hx1)).trans hx1
          replace hx2 := (HB4.out.cell (World.block_lt_of_cell? w0 _ hx2)).trans hx2
          have HI2 := Aside0.mk hi2
          have HL2 := Aside0.mk hl2
          clear hi2 hl2
          replace c7 := eq_true c7
          replace c6 := eq_true c6
          have HOb := Aside0.mk (Kd.S_mono (Kd.S_bound HO.out) (ok' := fun k_ => g6 < k_ ∧ k_ < wr.heap.size) (fun k_ hk_ => ⟨hk_.1, hk_.2.2.1⟩))
          go_wp2_with (first | ((with_reducible refine gate_dst (N := 9) rfl ?_); refine box_event ?hg (N := 9) ?hd (cs := #[.int .i64 0, .int .i64 0, .slice none 0 0]) (t := 29) ?hr ?_; (case hd => rfl); (case hg => rfl); (case hr => first | (go_simp; done) | (go_simp; rfl)); intro gz hg w5 hbox hb; have n0_ := Aside0.mk (below_step (by repeat (first | (with_reducible first | exact HXr.out | apply below_alloc | apply pw_below_drewN | apply below_drew1) | exact HXr.out)) hb); have GW_gz := Aside0.mk ((by rw [hg]; exact below_size (by repeat (first | (with_reducible first | exact HXr.out | apply below_alloc | apply pw_below_drewN | apply below_drew1) | exact HXr.out))) : wr.heap.size ≤ gz); clear HXr ; have HXr := n0_; clear n0_; have BK_gz := Aside0.mk hbox; clear hbox hb hg; have hz_gz0 : w5.cell? ⟨gz, 0, none⟩ = some (.int .i64 0) := (blk_cell BK_gz.out 0).trans rfl; have hz_gzf0 := blk_frozen BK_gz.out 0; have hz_gz1 : w5.cell? ⟨gz, 1, none⟩ = some (.int .i64 0) := (blk_cell BK_gz.out 1).trans rfl; have hz_gzf1 := blk_frozen BK_gz.out 1; have hz_gz2 : w5.cell? ⟨gz, 2, none⟩ = some (.slice none 0 0) := (blk_cell BK_gz.out 2).trans rfl; have hz_gzf2 := blk_frozen BK_gz.out 2) | (go_at_call 53; (refine (IH.out k1 (by have := HK1.out; omega) sq ts (rd_T29 x.f2 i) ty A2 c2 _ ?sB ?sN ?sI HI2.out HL2.out A7.out).mono ?_); (case sB => exact below_step HB4.out (show Below wr.heap.size wr _ from (by repeat (first | (with_reducible first | exact HXr.out | apply below_alloc | apply pw_below_drewN | apply below_drew1 | refine below_set ?_ GW_gz.out) | exact HXr.out)))); (case sN => exact Nat.le_trans HNr.out (below_size (show Below wr.heap.size wr _ from (by repeat (first | (with_reducible first | exact HXr.out | apply below_alloc | apply pw_below_drewN | apply below_drew1 | refine below_set ?_ GW_gz.out) | exact HXr.out))))); (case sI => exact H.step _ _ _ HI4.out (fun k_ hk_ => (show Below wr.heap.size wr _ from (by repeat (first | (with_reducible first | exact HXr.out | apply below_alloc | apply pw_below_drewN | apply below_drew1 | refine below_set ?_ GW_gz.out) | exact HXr.out))).block k_ (Nat.lt_of_lt_of_le hk_ HNr.out))); rintro e w6 ⟨v, rfl, hS, hB6, hk6, hi6⟩; have n1_ := Aside0.mk (Kd.S_kept (Kd.S_below HOb.out (show Below wr.heap.size wr _ from (by repeat (first | (with_reducible first | exact HXr.out | apply below_alloc | apply pw_below_drewN | apply below_drew1 | refine below_set ?_ GW_gz.out) | exact HXr.out)))) hk6 (fun k_ hk_ h_ => by have := hk_.1; have := H.so _ h_; have := HN.out; have := GW_g3.out; have := GW_g6.out; omega)); have n2_ := Aside0.mk (blk_kept (g := g3) (o := .cells #[.int .i64 x.f0, .int .i64 x.f1, .slice (some ad) x.f2.length c] 29 (0, 0)) (blk_below BK_g3.out (show Below wr.heap.size wr _ from (by repeat (first | (with_reducible first | exact HXr.out | apply below_alloc | apply pw_below_drewN | apply below_drew1 | refine below_set ?_ GW_gz.out) | exact HXr.out)))) hk6 (fun h_ => by have := H.so _ h_; have := HN.out; have := GW_g3.out; have := GW_g6.out; omega)); have n3_ := Aside0.mk (blk_kept (g := g6) (o := .cells #[.int .i64 0, .int .i64 0, .slice none 0 0] 29 (0, 0)) (blk_below BK_g6.out (show Below wr.heap.size wr _ from (by repeat (first | (with_reducible first | exact HXr.out | apply below_alloc | apply pw_below_drewN | apply below_drew1 | refine below_set ?_ GW_gz.out) | exact HXr.out)))) hk6 (fun h_ => by have := H.so _ h_; have := HN.out; have := GW_g3.out; have := GW_g6.out; omega)); have n4_ := Aside0.mk (Kept.then_ (HK4.out.below (show Below wr.heap.size wr _ from (by repeat (first | (with_reducible first | exact HXr.out | apply below_alloc | apply pw_below_drewN | apply below_drew1 | refine below_set ?_ GW_gz.out) | exact HXr.out)))) hk6 (fun _ h_ => .inl h_)); have HSv := Aside0.mk (Kd.S_lower (base' := w.heap.size) (Kd.S_mono (Kd.S_bound hS) (ok' := fun k_ => wr.heap.size ≤ k_) (fun k_ hk_ => Nat.le_trans (below_size (show Below wr.heap.size wr _ from (by repeat (first | (with_reducible first | exact HXr.out | apply below_alloc | apply pw_below_drewN | apply below_drew1 | refine below_set ?_ GW_gz.out) | exact HXr.out)))) hk_.2.1)) (Nat.le_trans HWr.out (below_size (show Below wr.heap.size wr _ from (by repeat (first | (with_reducible first | exact HXr.out | apply below_alloc | apply pw_below_drewN | apply below_drew1 | refine below_set ?_ GW_gz.out) | exact HXr.out)))))); have HZ6 := Aside0.mk (Nat.le_trans (below_size (show Below wr.heap.size wr _ from (by repeat (first | (with_reducible first | exact HXr.out | apply below_alloc | apply pw_below_drewN | apply below_drew1 | refine below_set ?_ GW_gz.out) | exact HXr.out)))) hk6.1); have HB6 := Aside0.mk hB6; have HI6 := Aside0.mk hi6; obtain ⟨Av, cv, ev⟩ := Kd.S_slice HSv.out; subst ev; have HO6 := n1_; have B36 := n2_; have B66 := n3_; have HK6 := n4_; clear n1_ n2_ n3_ n4_ hS hB6 hk6 hi6 HOb BK_g3 BK_g6 HB4 HK4 HI4 HXr A7 HO) | ((with_reducible refine gate_builtin (b := .append) (xs := #[.tmp 24, .tmp 29]) rfl ?_); at_builtin; refine Kd.S_append kG (w0 := w6) w.heap.size rfl (.tmp 24) (.tmp 29) 27 29 (.agg #[.int .i64 0, .int .i64 0, .slice none 0 0]) 40 rfl Try.underlying27 info29 rfl (by decide) (by omega) u7 out ty [.int .i64 ty.f0, .int .i64 ty.f1, .slice Av ty.f2.length cv] (fun k_ => g6 < k_) (fun k_ => wr.heap.size ≤ k_) rfl rfl ?aP ?aK ?aF ?aO ?aB ?aS ?aL ?_; (case aP => exact kG_mkM (x := ty) HSv.out); (case aK => exact fun k_ hk_ => ⟨Nat.lt_of_lt_of_le HLr.out hk_, fun e_ => by have h_ := ((Kd.S_R HO6.out).1 k_ e_.symm).2; omega⟩); (case aF => exact fun k_ hk_ => Nat.lt_of_lt_of_le (blk_lt B66.out) hk_); (case aO => exact Kd.S_mono HO6.out (fun k_ hk_ => ⟨hk_.1, Nat.not_le.2 hk_.2⟩)); (case aB => exact Below.refl _ _); (case aS => exact Nat.le_trans HWr.out HZ6.out); (case aL => have := LM.out; omega); intro v7b w7 ho hb hg hat; have hown : ∀ k_, (u7 : Value).ownBlock = some k_ → g6 < k_ := fun k_ e_ => ((Kd.S_R HO6.out).1 k_ e_).1; have n1_ := Aside0.mk (blk_grown (g := g3) (o := .cells #[.int .i64 x.f0, .int .i64 x.f1, .slice (some ad) x.f2.length c] 29 (0, 0)) B36.out hg (fun e_ => by have := hown _ e_.symm; have := HLT.out; omega)); have n2_ := Aside0.mk (blk_grown (g := g6) (o := .cells #[.int .i64 0, .int .i64 0, .slice none 0 0] 29 (0, 0)) B66.out hg (fun e_ => by have := hown _ e_.symm; omega)); have n3_ := Aside0.mk (HB6.out.trans (hb.mono (Nat.le_trans H.n0 HN.out))); have n4_ := Aside0.mk (Kept.of_grown hg HK6.out (fun k_ e_ => .inr (by have := hown _ e_; have := GW_g6.out; omega))); have n5_ := Aside0.mk (H.step _ _ _ HI6.out (fun k_ hk_ => hb.block k_ (Nat.lt_of_lt_of_le hk_ HN.out))); have HO7 := Aside0.mk ho; have B37 := n1_; have B67 := n2_; have HB7 := n3_; have HK7 := n4_; have HI7 := n5_; clear n1_ n2_ n3_ n4_ n5_ ho hb hg hat hown HO6 B36 B66 HB6 HK6 HI6 HSv))
          go_roundg k1
          case measure => have := HK1.out; omega
          case rel => exact ⟨_, out ++ [ty], ts, rfl, HF, ⟨by have := HK1.out; omega⟩, HO7, B37, B67, HB7, HK7, HI7⟩
        · rw [if_neg c6] at H'
          replace H' := Option.bind_eq_some_iff.mp H'
          obtain ⟨yy, At, e_⟩ := H'
          obtain rfl : y = yy := by injection (Option.some.inj e_) with h1_ h2_; exact h1_.symm
          obtain rfl : s' = sq := by injection (Option.some.inj e_) with h1_ h2_; exact h2_.symm
          have A3 := Aside0.mk At
          clear At e_
          have c6b0 : decide (i < (x.f2.length : Int)) = false := decide_eq_false c6
          clear c6
          obtain ⟨Ao, co, eo⟩ := Kd.S_slice HO.out
          subst eo
          have hzz0 : wr.cell? ⟨g3, 0, none⟩ = some (.int .i64 x.f0) := (blk_cell BK_g3.out 0).trans rfl
          have hzz1 : wr.cell? ⟨g3, 1, none⟩ = some (.int .i64 x.f1) := (blk_cell BK_g3.out 1).trans rfl
          have hzz2 : wr.cell? ⟨g3, 2, none⟩ = some (.slice A x.f2.length c) := (blk_cell BK_g3.out 2).trans rfl
          go_wp2_with (first | (go_at_fn gi; refine (H.inner k1 x.f1 out y s' Ao out.length co w.heap.size (fun k_ => g6 < k_) _ A3.out ?sB HN.out ?sL ?sI ?sS).mono ?_; (case sB => exact below_step HB4.out (show Below wr.heap.size wr _ from (by repeat (first | (with_reducible first | exact HXr.out | apply below_alloc | apply pw_below_drewN | apply below_drew1) | exact HXr.out)))); (case sL => exact Nat.le_trans HWr.out (below_size (show Below wr.heap.size wr _ from (by repeat (first | (with_reducible first | exact HXr.out | apply below_alloc | apply pw_below_drewN | apply below_drew1) | exact HXr.out))))); (case sI => exact H.step _ _ _ HI4.out (fun k_ hk_ => (show Below wr.heap.size wr _ from (by repeat (first | (with_reducible first | exact HXr.out | apply below_alloc | apply pw_below_drewN | apply below_drew1) | exact HXr.out))).block k_ (Nat.lt_of_lt_of_le hk_ HNr.out))); (case sS => exact Kd.S_below HO.out (show Below wr.heap.size wr _ from (by repeat (first | (with_reducible first | exact HXr.out | apply below_alloc | apply pw_below_drewN | apply below_drew1) | exact HXr.out)))); rintro e w8 ⟨v, rfl, hS, hB8, hk8, hi8⟩; have HS8 := Aside0.mk (Kd.S_mono hS (ok' := fun k_ => g6 < k_) (fun k_ hk_ => hk_.elim id (fun h_ => by have := HLr.out; have := below_size (show Below wr.heap.size wr _ from (by repeat (first | (with_reducible first | exact HXr.out | apply below_alloc | apply pw_below_drewN | apply below_drew1) | exact HXr.out))); omega))); have HB8 := Aside0.mk hB8; have HK8 := Aside0.mk (Kept.then_ (HK4.out.below (show Below wr.heap.size wr _ from (by repeat (first | (with_reducible first | exact HXr.out | apply below_alloc | apply pw_below_drewN | apply below_drew1) | exact HXr.out)))) hk8 (fun _ h_ => .inl h_)); have HI8 := Aside0.mk hi8; have n2_ := Aside0.mk (blk_kept (g := g6) (o := .cells #[.int .i64 0, .int .i64 0, .slice none 0 0] 29 (0, 0)) (blk_below BK_g6.out (show Below wr.heap.size wr _ from (by repeat (first | (with_reducible first | exact HXr.out | apply below_alloc | apply pw_below_drewN | apply below_drew1) | exact HXr.out)))) hk8 (fun h_ => by have := H.so _ h_; have := HN.out; have := GW_g3.out; have := GW_g6.out; omega)); obtain ⟨Av, cv, ev⟩ := Kd.S_slice HS8.out; subst ev; clear hS hB8 hk8 hi8 BK_g3 BK_g6 HXr hzz0 hzz1 hzz2; have BK_g6 := n2_; clear n2_; have hz_g60 : w8.cell? ⟨g6, 0, none⟩ = some (.int .i64 0) := (blk_cell BK_g6.out 0).trans rfl; have hz_g6f0 := blk_frozen BK_g6.out 0; have hz_g61 : w8.cell? ⟨g6, 1, none⟩ = some (.int .i64 0) := (blk_cell BK_g6.out 1).trans rfl; have hz_g6f1 := blk_frozen BK_g6.out 1; have hz_g62 : w8.cell? ⟨g6, 2, none⟩ = some (.slice none 0 0) := (blk_cell BK_g6.out 2).trans rfl; have hz_g6f2 := blk_frozen BK_g6.out 2))
          refine bodyPost_ret (results_cell_row rfl _ _ g6 29 #[.int .i64 y.f0, .int .i64 y.f1, .slice Av y.f2.length cv] (0, 0) _ rfl (by (with_reducible repeat (first | refine blk_drewN ?_ _ | refine blk_drew ?_ | refine blk_alloc ?_ _)); refine blk_put (cs := #[.int .i64 y.f0, .int .i64 y.f1, .slice none 0 0]) ?_ 2 _ rfl; (with_reducible repeat (first | refine blk_drewN ?_ _ | refine blk_drew ?_ | refine blk_alloc ?_ _)); refine blk_put (cs := #[.int .i64 y.f0, .int .i64 0, .slice none 0 0]) ?_ 1 _ rfl; (with_reducible repeat (first | refine blk_drewN ?_ _ | refine blk_drew ?_ | refine blk_alloc ?_ _)); refine blk_put (cs := #[.int .i64 0, .int .i64 0, .slice none 0 0]) ?_ 0 _ rfl; (with_reducible repeat (first | refine blk_drewN ?_ _ | refine blk_drew ?_ | refine blk_alloc ?_ _)); exact BK_g6.out) Try.underlying29 rfl (by kernel_rfl)) rfl ?_
          have hg0 : w0.heap.size ≤ g6 := by have := H.n0; have := HN.out; have := GW_g6.out; omega
          refine ⟨_, rfl, Kd.S_mono (Kd.S_far (p := ⟨g6, 2, none⟩) (Kd.S_far (p := ⟨g6, 1, none⟩) (Kd.S_far (p := ⟨g6, 0, none⟩) HS8.out (fun k_ hk_ => by have h_ : g6 < k_ := hk_; show k_ ≠ g6; omega) _) (fun k_ hk_ => by have h_ : g6 < k_ := hk_; show k_ ≠ g6; omega) _) (fun k_ hk_ => by have h_ : g6 < k_ := hk_; show k_ ≠ g6; omega) _) (fun _ _ => trivial), below_set (below_set (below_set HB8.out hg0) hg0) hg0, Kept.setCell (Kept.setCell (Kept.setCell HK8.out (.inr GW_g6.out) _) (.inr GW_g6.out) _) (.inr GW_g6.out) _, H.step _ _ _ HI8.out (fun k_ hk_ => ?_)⟩
          have hkn : k_ ≠ g6 := by have := GW_g6.out; have := HN.out; omega
          rw [Below.heap_setCell _ _ _ _ hkn, Below.heap_setCell _ _ _ _ hkn, Below.heap_setCell _ _ _ _ hkn]

end Go.Proofs.Ytjnobnmjhpmpfaa.P

namespace Go.Proofs.Ytjnobnmjhpmpfaa.P
open Go.RowKit Go.Proofs.YtjnobnmjhpmpfaaW.PrintWords Go.Proofs.YtjnobnmjhpmpfaaW.PrintLast Go.Proofs.YtjnobnmjhpmpfaaW.PrintMore
attribute [local go_sem] max2_int min2_int max_two min_two max_three min_three max_four min_four
set_option linter.unusedVariables false
set_option linter.unusedSimpArgs false

set_option maxHeartbeats 8000000 in
set_option maxRecDepth 100000 in
theorem impl_node.callsT (a0 : Int) (A1 : Option Addr) (n1 c1 : Nat) (w : World) :
    Calls Try.prog 56 #[.int .i64 a0, .slice A1 n1 c1] w fun e w' => e = .returned (.agg #[.int .i64 (-1), .int .i64 a0, .slice A1 n1 c1]) ∧ Below w.heap.size w w' := by
  have hu29 := Try.underlying29
  have HB := Aside0.mk (Below.refl w.heap.size w)
  go_enter Try.func56, Try.ntmps56
  go_wp2_with (first | ((with_reducible refine gate_dst (N := 4) rfl ?_); refine box_event ?hg (N := 4) ?hd (cs := #[.int .i64 0, .int .i64 0, .slice none 0 0]) (t := 29) ?hr ?_; (case hd => rfl); (case hg => rfl); (case hr => first | (go_simp; done) | (go_simp; rfl)); intro g hg w1 hbox hb; have n0_ := Aside0.mk (below_step (by repeat (first | (with_reducible first | exact HB.out | apply below_alloc | apply pw_below_drewN | apply below_drew1) | exact HB.out)) hb); have GW_g := Aside0.mk ((by rw [hg]; exact below_size (by repeat (first | (with_reducible first | exact HB.out | apply below_alloc | apply pw_below_drewN | apply below_drew1) | exact HB.out))) : w.heap.size ≤ g); clear HB ; have HB := n0_; clear n0_; have BK_g := Aside0.mk hbox; clear hbox hb hg; have hz_g0 : w1.cell? ⟨g, 0, none⟩ = some (.int .i64 0) := (blk_cell BK_g.out 0).trans rfl; have hz_gf0 := blk_frozen BK_g.out 0; have hz_g1 : w1.cell? ⟨g, 1, none⟩ = some (.int .i64 0) := (blk_cell BK_g.out 1).trans rfl; have hz_gf1 := blk_frozen BK_g.out 1; have hz_g2 : w1.cell? ⟨g, 2, none⟩ = some (.slice none 0 0) := (blk_cell BK_g.out 2).trans rfl; have hz_gf2 := blk_frozen BK_g.out 2))
  refine bodyPost_ret (results_cell_row rfl _ _ g 29 #[.int .i64 (-1), .int .i64 a0, .slice A1 n1 c1] (0, 0) _ rfl (by (with_reducible repeat (first | refine blk_drewN ?_ _ | refine blk_drew ?_ | refine blk_alloc ?_ _)); refine blk_put (cs := #[.int .i64 (-1), .int .i64 a0, .slice none 0 0]) ?_ 2 _ rfl; (with_reducible repeat (first | refine blk_drewN ?_ _ | refine blk_drew ?_ | refine blk_alloc ?_ _)); refine blk_put (cs := #[.int .i64 (-1), .int .i64 0, .slice none 0 0]) ?_ 1 _ rfl; (with_reducible repeat (first | refine blk_drewN ?_ _ | refine blk_drew ?_ | refine blk_alloc ?_ _)); refine blk_put (cs := #[.int .i64 0, .int .i64 0, .slice none 0 0]) ?_ 0 _ rfl; (with_reducible repeat (first | refine blk_drewN ?_ _ | refine blk_drew ?_ | refine blk_alloc ?_ _)); exact BK_g.out) Try.underlying29 rfl (by kernel_rfl)) rfl ?_
  exact ⟨rfl, (by repeat (first | (with_reducible first | exact HB.out | apply below_alloc | apply pw_below_drewN | apply below_drew1 | refine below_set ?_ GW_g.out) | exact HB.out))⟩
set_option maxHeartbeats 8000000 in
set_option maxRecDepth 100000 in
theorem impl_leafOf.callsT (a0 : Int) (w : World) :
    Calls Try.prog 54 #[.int .i64 a0] w fun e w' => e = .returned (.agg #[.int .i64 a0, .int .i64 0, .slice none 0 0]) ∧ Below w.heap.size w w' := by
  have hu29 := Try.underlying29
  have HB := Aside0.mk (Below.refl w.heap.size w)
  go_enter Try.func54, Try.ntmps54
  go_wp2_with (first | ((with_reducible refine gate_dst (N := 2) rfl ?_); refine box_event ?hg (N := 2) ?hd (cs := #[.int .i64 0, .int .i64 0, .slice none 0 0]) (t := 29) ?hr ?_; (case hd => rfl); (case hg => rfl); (case hr => first | (go_simp; done) | (go_simp; rfl)); intro g hg w1 hbox hb; have n0_ := Aside0.mk (below_step (by repeat (first | (with_reducible first | exact HB.out | apply below_alloc | apply pw_below_drewN | apply below_drew1) | exact HB.out)) hb); have GW_g := Aside0.mk ((by rw [hg]; exact below_size (by repeat (first | (with_reducible first | exact HB.out | apply below_alloc | apply pw_below_drewN | apply below_drew1) | exact HB.out))) : w.heap.size ≤ g); clear HB ; have HB := n0_; clear n0_; have BK_g := Aside0.mk hbox; clear hbox hb hg; have hz_g0 : w1.cell? ⟨g, 0, none⟩ = some (.int .i64 0) := (blk_cell BK_g.out 0).trans rfl; have hz_gf0 := blk_frozen BK_g.out 0; have hz_g1 : w1.cell? ⟨g, 1, none⟩ = some (.int .i64 0) := (blk_cell BK_g.out 1).trans rfl; have hz_gf1 := blk_frozen BK_g.out 1; have hz_g2 : w1.cell? ⟨g, 2, none⟩ = some (.slice none 0 0) := (blk_cell BK_g.out 2).trans rfl; have hz_gf2 := blk_frozen BK_g.out 2))
  refine bodyPost_ret (results_cell_row rfl _ _ g 29 #[.int .i64 a0, .int .i64 0, .slice none 0 0] (0, 0) _ rfl (by (with_reducible repeat (first | refine blk_drewN ?_ _ | refine blk_drew ?_ | refine blk_alloc ?_ _)); refine blk_put (cs := #[.int .i64 a0, .int .i64 0, .slice none 0 0]) ?_ 2 _ rfl; (with_reducible repeat (first | refine blk_drewN ?_ _ | refine blk_drew ?_ | refine blk_alloc ?_ _)); refine blk_put (cs := #[.int .i64 a0, .int .i64 0, .slice none 0 0]) ?_ 1 _ rfl; (with_reducible repeat (first | refine blk_drewN ?_ _ | refine blk_drew ?_ | refine blk_alloc ?_ _)); refine blk_put (cs := #[.int .i64 0, .int .i64 0, .slice none 0 0]) ?_ 0 _ rfl; (with_reducible repeat (first | refine blk_drewN ?_ _ | refine blk_drew ?_ | refine blk_alloc ?_ _)); exact BK_g.out) Try.underlying29 rfl (by kernel_rfl)) rfl ?_
  exact ⟨rfl, (by repeat (first | (with_reducible first | exact HB.out | apply below_alloc | apply pw_below_drewN | apply below_drew1 | refine below_set ?_ GW_g.out) | exact HB.out))⟩
end Go.Proofs.Ytjnobnmjhpmpfaa.P

namespace Go.Proofs.Ytjnobnmjhpmpfaa.P
open Go.RowKit Go.Proofs.YtjnobnmjhpmpfaaW.PrintWords Go.Proofs.YtjnobnmjhpmpfaaW.PrintLast Go.Proofs.YtjnobnmjhpmpfaaW.PrintMore
attribute [local go_sem] max2_int min2_int max_two min_two max_three min_three max_four min_four
set_option linter.unusedVariables false
set_option linter.unusedSimpArgs false

set_option maxHeartbeats 8000000 in
set_option maxRecDepth 100000 in
theorem spec_l02Gate.callsT (a0 : Int) (A1 : Option Addr) (n1 c1 : Nat) (w : World) :
    Calls Try.prog 63 #[.int .i64 a0, .slice A1 n1 c1] w fun e w' => e = .returned (.agg #[.int .i64 (-1), .int .i64 a0, .slice A1 n1 c1]) ∧ Below w.heap.size w w' := by
  have hu29 := Try.underlying29
  have HB := Aside0.mk (Below.refl w.heap.size w)
  go_enter Try.func63, Try.ntmps63
  go_wp2_with (first | ((with_reducible refine gate_dst (N := 4) rfl ?_); refine box_event ?hg (N := 4) ?hd (cs := #[.int .i64 0, .int .i64 0, .slice none 0 0]) (t := 29) ?hr ?_; (case hd => rfl); (case hg => rfl); (case hr => first | (go_simp; done) | (go_simp; rfl)); intro g hg w1 hbox hb; have n0_ := Aside0.mk (below_step (by repeat (first | (with_reducible first | exact HB.out | apply below_alloc | apply pw_below_drewN | apply below_drew1) | exact HB.out)) hb); have GW_g := Aside0.mk ((by rw [hg]; exact below_size (by repeat (first | (with_reducible first | exact HB.out | apply below_alloc | apply pw_below_drewN | apply below_drew1) | exact HB.out))) : w.heap.size ≤ g); clear HB ; have HB := n0_; clear n0_; have BK_g := Aside0.mk hbox; clear hbox hb hg; have hz_g0 : w1.cell? ⟨g, 0, none⟩ = some (.int .i64 0) := (blk_cell BK_g.out 0).trans rfl; have hz_gf0 := blk_frozen BK_g.out 0; have hz_g1 : w1.cell? ⟨g, 1, none⟩ = some (.int .i64 0) := (blk_cell BK_g.out 1).trans rfl; have hz_gf1 := blk_frozen BK_g.out 1; have hz_g2 : w1.cell? ⟨g, 2, none⟩ = some (.slice none 0 0) := (blk_cell BK_g.out 2).trans rfl; have hz_gf2 := blk_frozen BK_g.out 2))
  refine bodyPost_ret (results_cell_row rfl _ _ g 29 #[.int .i64 (-1), .int .i64 a0, .slice A1 n1 c1] (0, 0) _ rfl (by (with_reducible repeat (first | refine blk_drewN ?_ _ | refine blk_drew ?_ | refine blk_alloc ?_ _)); refine blk_put (cs := #[.int .i64 (-1), .int .i64 a0, .slice none 0 0]) ?_ 2 _ rfl; (with_reducible repeat (first | refine blk_drewN ?_ _ | refine blk_drew ?_ | refine blk_alloc ?_ _)); refine blk_put (cs := #[.int .i64 (-1), .int .i64 0, .slice none 0 0]) ?_ 1 _ rfl; (with_reducible repeat (first | refine blk_drewN ?_ _ | refine blk_drew ?_ | refine blk_alloc ?_ _)); refine blk_put (cs := #[.int .i64 0, .int .i64 0, .slice none 0 0]) ?_ 0 _ rfl; (with_reducible repeat (first | refine blk_drewN ?_ _ | refine blk_drew ?_ | refine blk_alloc ?_ _)); exact BK_g.out) Try.underlying29 rfl (by kernel_rfl)) rfl ?_
  exact ⟨rfl, (by repeat (first | (with_reducible first | exact HB.out | apply below_alloc | apply pw_below_drewN | apply below_drew1 | refine below_set ?_ GW_g.out) | exact HB.out))⟩
set_option maxHeartbeats 8000000 in
set_option maxRecDepth 100000 in
theorem spec_l02Leaf.callsT (a0 : Int) (w : World) :
    Calls Try.prog 62 #[.int .i64 a0] w fun e w' => e = .returned (.agg #[.int .i64 a0, .int .i64 0, .slice none 0 0]) ∧ Below w.heap.size w w' := by
  have hu29 := Try.underlying29
  have HB := Aside0.mk (Below.refl w.heap.size w)
  go_enter Try.func62, Try.ntmps62
  go_wp2_with (first | ((with_reducible refine gate_dst (N := 2) rfl ?_); refine box_event ?hg (N := 2) ?hd (cs := #[.int .i64 0, .int .i64 0, .slice none 0 0]) (t := 29) ?hr ?_; (case hd => rfl); (case hg => rfl); (case hr => first | (go_simp; done) | (go_simp; rfl)); intro g hg w1 hbox hb; have n0_ := Aside0.mk (below_step (by repeat (first | (with_reducible first | exact HB.out | apply below_alloc | apply pw_below_drewN | apply below_drew1) | exact HB.out)) hb); have GW_g := Aside0.mk ((by rw [hg]; exact below_size (by repeat (first | (with_reducible first | exact HB.out | apply below_alloc | apply pw_below_drewN | apply below_drew1) | exact HB.out))) : w.heap.size ≤ g); clear HB ; have HB := n0_; clear n0_; have BK_g := Aside0.mk hbox; clear hbox hb hg; have hz_g0 : w1.cell? ⟨g, 0, none⟩ = some (.int .i64 0) := (blk_cell BK_g.out 0).trans rfl; have hz_gf0 := blk_frozen BK_g.out 0; have hz_g1 : w1.cell? ⟨g, 1, none⟩ = some (.int .i64 0) := (blk_cell BK_g.out 1).trans rfl; have hz_gf1 := blk_frozen BK_g.out 1; have hz_g2 : w1.cell? ⟨g, 2, none⟩ = some (.slice none 0 0) := (blk_cell BK_g.out 2).trans rfl; have hz_gf2 := blk_frozen BK_g.out 2))
  refine bodyPost_ret (results_cell_row rfl _ _ g 29 #[.int .i64 a0, .int .i64 0, .slice none 0 0] (0, 0) _ rfl (by (with_reducible repeat (first | refine blk_drewN ?_ _ | refine blk_drew ?_ | refine blk_alloc ?_ _)); refine blk_put (cs := #[.int .i64 a0, .int .i64 0, .slice none 0 0]) ?_ 2 _ rfl; (with_reducible repeat (first | refine blk_drewN ?_ _ | refine blk_drew ?_ | refine blk_alloc ?_ _)); refine blk_put (cs := #[.int .i64 a0, .int .i64 0, .slice none 0 0]) ?_ 1 _ rfl; (with_reducible repeat (first | refine blk_drewN ?_ _ | refine blk_drew ?_ | refine blk_alloc ?_ _)); refine blk_put (cs := #[.int .i64 0, .int .i64 0, .slice none 0 0]) ?_ 0 _ rfl; (with_reducible repeat (first | refine blk_drewN ?_ _ | refine blk_drew ?_ | refine blk_alloc ?_ _)); exact BK_g.out) Try.underlying29 rfl (by kernel_rfl)) rfl ?_
  exact ⟨rfl, (by repeat (first | (with_reducible first | exact HB.out | apply below_alloc | apply pw_below_drewN | apply below_drew1 | refine below_set ?_ GW_g.out) | exact HB.out))⟩
def leafD (_ : Nat) (_ : Unit) (h : Int) : Option (S29 × Unit) := some (⟨h, 0, []⟩, ())
theorem map_leafD {w0 : World} (j : Nat) (s s' : Unit) (h : Int) (y : S29) (W : World) (e : leafD j s h = some (y, s')) (hB : Below w0.heap.size w0 W) : Calls Try.prog 54 (#[.int .i64 h] ++ #[]) W fun e w' => ∃ v, e = .returned (.agg #[.int .i64 y.f0, .int .i64 y.f1, v]) ∧ Kd.S kG 29 w' W.heap.size (fun _ => True) v y.f2 ∧ Below w0.heap.size w0 w' ∧ Kept W w' (fun _ => False) ∧ True := by
  unfold leafD at e
  obtain ⟨rfl, _⟩ := (by simpa using e : (⟨h, 0, []⟩ : S29) = y ∧ True)
  exact (impl_leafOf.callsT h W).mono (fun e w' ⟨he, hb⟩ => ⟨_, he, Kd.S_nil _ _ _ _ _, below_step hB hb, Kept.of_below hb _, trivial⟩)
end Go.Proofs.Ytjnobnmjhpmpfaa.P

namespace Go.Proofs.Ytjnobnmjhpmpfaa.P
open Go.RowKit Go.Proofs.YtjnobnmjhpmpfaaW.PrintWords Go.Proofs.YtjnobnmjhpmpfaaW.PrintLast Go.Proofs.YtjnobnmjhpmpfaaW.PrintMore
attribute [local go_sem] max2_int min2_int max_two min_two max_three min_three max_four min_four
set_option linter.unusedVariables false
set_option linter.unusedSimpArgs false

/-! ### impl_Gate_100: function 100 (by hand) -/
/-- slices.IndexFunc over gates: the place of the first element of which the closure says yes, or -1. -/
def idxG.l0 : Nat → (S29 → Option Bool) → List S29 → Int → Option Int
  | 0, _, _, _ => none
  | k + 1, p, xs, i => if i < (xs.length : Int) then (if 0 ≤ i then ((p (rd_T29 xs i)).bind fun t => if t = true then (some i) else (idxG.l0 k p xs (wrap64 (i + 1)))) else none) else some (-1)
set_option maxHeartbeats 8000000 in
set_option maxRecDepth 100000 in
theorem idxG.calls (k : Nat) (p : S29 → Option Bool) (g : Nat) (lb : Array Value) (eg : ∀ args w, (callFunc g args).run Try.prog w = .ok (.enter g args) w) (A0 : Option Addr) (c0 : Nat) (l0 : List S29) (r : Int) (w : World)
    (hr0 : Kd.C k29 w A0 l0.length l0)
    (hp : ∀ (W : World) (x : S29) (A : Option Addr) (c : Nat) (b : Bool), p x = some b → Below w.heap.size w W → Kd.C k29 W A x.f2.length x.f2 → x.f2.length ≤ c → Calls Try.prog g (#[.agg #[.int .i64 x.f0, .int .i64 x.f1, .slice A x.f2.length c]] ++ lb) W fun e w' => e = .returned (.bool b) ∧ Below w.heap.size w w')
    (h : idxG.l0 k p l0 0 = some r) :
    Calls Try.prog 100 #[.slice A0 l0.length c0, .func (.func g) #[] lb] w fun e w' => e = .returned (.int .i64 r) ∧ Below w.heap.size w w' := by
  have HR0 := Aside0.mk hr0
  clear hr0
  have HP := Aside0.mk hp
  clear hp
  have HB := Aside0.mk (Below.refl w.heap.size w)
  have H' := Aside0.mk h
  clear h
  have hum := Try.underlying29
  go_enter Try.func100, Try.ntmps100
  go_wp2
  go_loopg [5, 8] k (fun kq _ v8 w' => ∃ (x8 : Int), v8 = .int .i64 x8 ∧ Aside0 (idxG.l0 kq p l0 x8 = some r) ∧ Aside0 (kq ≤ k) ∧ Aside0 (Below w.heap.size w w'))
  case atStart => exact ⟨0, rfl, H', ⟨Nat.le_refl _⟩, HB⟩
  case round =>
    clear H' HB
    obtain ⟨x8, rfl, HA, HK1, HB⟩ := hrel
    cases gk with
    | zero => exact absurd HA.out (by simp [idxG.l0])
    | succ k1 =>
      have H := HA.out
      clear HA
      simp only [idxG.l0] at H
      by_cases c6 : x8 < (l0.length : Int)
      · rw [if_pos c6] at H
        have c6b0 : decide (x8 < (l0.length : Int)) = true := decide_eq_true c6
        clear c6
        by_cases c7 : 0 ≤ x8
        · rw [if_pos c7] at H
          have c7b0 : decide (0 ≤ x8) = true := decide_eq_true c7
          clear c7
          replace H := Option.bind_eq_some_iff.mp H
          obtain ⟨t, At, H⟩ := H
          have A3 := Aside0.mk At
          clear At
          have p104 : 0 ≤ (x8 : Int) := of_decide_eq_true (by assumption)
          have q104 : x8 < (l0.length : Int) := of_decide_eq_true (by assumption)
          obtain ⟨ad104, Ae, ce, e104, hx104_0, hx104_1, hx104_2, hle, hre⟩ := at_T29 HR0.out x8 p104 q104
          cases e104
          have HE := Aside0.mk (Kd.C_below hre HB.out)
          have HL := Aside0.mk hle
          clear hre hle
          replace hx104_0 := (HB.out.cell (World.block_lt_of_cell? w _ hx104_0)).trans hx104_0
          replace hx104_1 := (HB.out.cell (World.block_lt_of_cell? w _ hx104_1)).trans hx104_1
          replace hx104_2 := (HB.out.cell (World.block_lt_of_cell? w _ hx104_2)).trans hx104_2
          replace p104 := eq_true p104
          replace q104 := eq_true q104
          cases t with
          | true =>
            rw [if_pos rfl] at H
            obtain rfl := Option.some.inj H
            go_wp2_with (go_at_fn g; refine (HP.out _ _ _ _ _ A3.out HB.out HE.out HL.out).mono ?_; rintro e w' ⟨rfl, hb'⟩)
            go_ret
            exact ⟨rfl, hb'⟩
          | false =>
            rw [if_neg (by decide)] at H
            have H' := Aside0.mk H
            clear H
            go_wp2_with (go_at_fn g; refine (HP.out _ _ _ _ _ A3.out HB.out HE.out HL.out).mono ?_; rintro e w' ⟨rfl, hb'⟩)
            go_roundg k1
            case measure => have := HK1.out; omega
            case rel => exact ⟨_, rfl, H', ⟨by have := HK1.out; omega⟩, ⟨hb'⟩⟩
        · rw [if_neg c7] at H
          exact absurd H (by simp)
      · rw [if_neg c6] at H
        have c6b0 : decide (x8 < (l0.length : Int)) = false := decide_eq_false c6
        clear c6
        obtain rfl := Option.some.inj H
        go_wp2
        go_ret
        exact ⟨rfl, HB.out⟩
theorem idxG.mono_l : ∀ k p xs i, LeO (idxG.l0 k p xs i) (idxG.l0 (k + 1) p xs i)
  | 0, _, _, _ => fun r h => by simp [idxG.l0] at h
  | k + 1, p, xs, i => by
    have ih := idxG.mono_l k
    unfold idxG.l0
    refine LeO.ite (LeO.ite (LeO.bind (LeO.refl _) (fun t => LeO.ite (LeO.refl _) (ih _ _ _))) (LeO.refl _)) (LeO.refl _)
theorem idxG.mono_p : ∀ k p p' xs i, (∀ x, LeO (p x) (p' x)) → LeO (idxG.l0 k p xs i) (idxG.l0 k p' xs i)
  | 0, _, _, _, _, _ => fun r h => by simp [idxG.l0] at h
  | k + 1, p, p', xs, i, hp => by
    have ih := idxG.mono_p k p p'
    unfold idxG.l0
    refine LeO.ite (LeO.ite (LeO.bind (hp _) (fun t => LeO.ite (LeO.refl _) (ih _ _ hp))) (LeO.refl _)) (LeO.refl _)

end Go.Proofs.Ytjnobnmjhpmpfaa.P

namespace Go.Proofs.Ytjnobnmjhpmpfaa.P
open Go.RowKit Go.Proofs.YtjnobnmjhpmpfaaW.PrintWords Go.Proofs.YtjnobnmjhpmpfaaW.PrintLast Go.Proofs.YtjnobnmjhpmpfaaW.PrintMore
attribute [local go_sem] max2_int min2_int max_two min_two max_three min_three max_four min_four
set_option linter.unusedVariables false
set_option linter.unusedSimpArgs false

theorem blk_new_at {W : World} {o : Obj} {g : Nat} (h : g = W.heap.size) : (W.alloc o).heap[g]? = some o := by rw [h]; exact blk_new W o
theorem calls_as {P : Program} {f : Nat} {us vs : Array Value} {w : World} {Q : Ending → World → Prop} (e : us = vs) (h : Calls P f us w Q) : Calls P f vs w Q := e ▸ h
end Go.Proofs.Ytjnobnmjhpmpfaa.P

namespace Go.Proofs.Ytjnobnmjhpmpfaa.P
open Go.RowKit Go.Proofs.YtjnobnmjhpmpfaaW.PrintWords Go.Proofs.YtjnobnmjhpmpfaaW.PrintLast Go.Proofs.YtjnobnmjhpmpfaaW.PrintMore
attribute [local go_sem] max2_int min2_int max_two min_two max_three min_three max_four min_four
set_option linter.unusedVariables false
set_option linter.unusedSimpArgs false

/-! ### spec_ValidGate: function 19 (by hand) -/
end Go.Proofs.Ytjnobnmjhpmpfaa.P

namespace Go.Proofs.Ytjnobnmjhpmpfaa.P
open Go.RowKit Go.Proofs.YtjnobnmjhpmpfaaW.PrintWords Go.Proofs.YtjnobnmjhpmpfaaW.PrintLast Go.Proofs.YtjnobnmjhpmpfaaW.PrintMore
attribute [local go_sem] max2_int min2_int max_two min_two max_three min_three max_four min_four
set_option linter.unusedVariables false
set_option linter.unusedSimpArgs false

/-! ### impl_GateSize: function 15 -/
mutual
def impl_GateSize.l0 : Nat → Int → List (S29) → Int → Int → Option (Int)
  | 0, _, _, _, _ => none
  | k + 1, x3, x7, x8, x9 => if x9 < x8 then (if 0 ≤ x9 then (if x9 < (x7.length : Int) then ((impl_GateSize.f k ((rd_T29 x7 x9).f0) ((rd_T29 x7 x9).f1) ((rd_T29 x7 x9).f2)).bind fun t112 => (impl_GateSize.l0 k (wrap64 (x3 + t112)) x7 x8 (wrap64 (x9 + 1)))) else (none)) else (none)) else (some x3)
def impl_GateSize.f : Nat → Int → Int → List (S29) → Option (Int)
  | 0, _, _, _ => none
  | k + 1, a0_0, a0_1, l0_2 => impl_GateSize.l0 k 1 l0_2 (l0_2.length : Int) 0
end
set_option maxHeartbeats 8000000 in
set_option maxRecDepth 100000 in
theorem impl_GateSize.calls (k : Nat) : ∀ (a0_0 : Int) (a0_1 : Int) (A0_2 : Option Addr) (c0_2 : Nat) (l0_2 : List (S29)) (r : Int) (w : World) (hr0_2 : Kd.C k29 w A0_2 l0_2.length l0_2) (hc0_2 : l0_2.length ≤ c0_2) (h : impl_GateSize.f k a0_0 a0_1 l0_2 = some r),
    Calls Try.prog 15 #[.agg #[.int .i64 a0_0, .int .i64 a0_1, .slice A0_2 l0_2.length c0_2]] w fun e w' => e = .returned (.int .i64 r) ∧ Below w.heap.size w w' := by
  induction k using Nat.strongRecOn with
  | _ k ih =>
  intro a0_0 a0_1 A0_2 c0_2 l0_2 r w hr0_2 hc0_2 h
  cases k with
  | zero => exact absurd h (by simp [impl_GateSize.f])
  | succ k =>
  simp only [impl_GateSize.f] at h
  have hu29 := Try.underlying29
  have HR0_2 := Aside0.mk hr0_2
  have HC0_2 := Aside0.mk hc0_2
  clear hr0_2 hc0_2
  have HB := Aside0.mk (Below.refl w.heap.size w)
  have H : (impl_GateSize.l0 k 1 l0_2 (l0_2.length : Int) 0) = some r := h
  clear h
  have H' := Aside0.mk H
  clear H
  go_enter Try.func15, Try.ntmps15
  go_wp2_with (first | ((with_reducible refine gate_dst (N := 1) rfl ?_); refine box_event ?hg (N := 1) ?hd (cs := #[.int .i64 a0_0, .int .i64 a0_1, .slice A0_2 l0_2.length c0_2]) (t := 29) ?hr ?_; (case hd => rfl); (case hg => rfl); (case hr => first | (go_simp; done) | (go_simp; rfl)); intro gb109 hg w2 hbox hb; have n0_ := Aside0.mk (below_step (by repeat (first | (with_reducible first | exact HB.out | apply below_alloc | apply pw_below_drewN | apply below_drew1) | exact HB.out)) hb); have n1_ := Aside0.mk (hbox); have n2_ := Aside0.mk ((by rw [hg]; exact (below_size (by repeat (first | (with_reducible first | exact HB.out | apply below_alloc | apply pw_below_drewN | apply below_drew1) | exact HB.out))) : w.heap.size ≤ gb109)); have n3_ := Aside0.mk ((by rw [hg]; exact (below_size (by repeat (first | (with_reducible first | exact HB.out | apply below_alloc | apply pw_below_drewN | apply below_drew1) | exact HB.out))) : w.heap.size ≤ gb109)); clear HB; have HB := n0_; have BK109 := n1_; have GW109 := n2_; have GE109 := n3_; clear n0_ n1_ n2_ n3_; clear hb hbox hg; have hcz3_0 : w2.cell? ⟨gb109, 0, none⟩ = some (.int .i64 a0_0) := (blk_cell BK109.out 0).trans rfl; have hcz3_1 : w2.cell? ⟨gb109, 1, none⟩ = some (.int .i64 a0_1) := (blk_cell BK109.out 1).trans rfl; have hcz3_2 : w2.cell? ⟨gb109, 2, none⟩ = some (.slice A0_2 l0_2.length c0_2) := (blk_cell BK109.out 2).trans rfl; have hfz3_0 := blk_frozen BK109.out 0; have hfz3_1 := blk_frozen BK109.out 1; have hfz3_2 := blk_frozen BK109.out 2))
  go_loopg [3, 9] k (fun kq v3 v9 w' => ∃ (x3_1 : Int) (x9_1 : Int), v3 = .int .i64 x3_1 ∧ v9 = .int .i64 x9_1 ∧ Aside0 (impl_GateSize.l0 kq x3_1 l0_2 (l0_2.length : Int) x9_1 = some r) ∧ Aside0 (kq ≤ k) ∧ Aside0 (w'.heap[gb109]? = some (.cells #[.int .i64 a0_0, .int .i64 a0_1, (.slice A0_2 l0_2.length c0_2)] 29 (0, 0))) ∧ Aside0 (Below w.heap.size w w'))
  case atStart => exact ⟨(1), (0), (by first | rfl | (simp; done) | (simp [*]; done)), (by first | rfl | (simp; done) | (simp [*]; done)), H', ⟨Nat.le_refl _⟩, ⟨by (with_reducible repeat (first | refine blk_drewN ?_ _ | refine blk_drew ?_ | refine blk_alloc ?_ _)); exact BK109.out⟩, ⟨by repeat (first | (with_reducible first | exact HB.out | apply below_alloc | apply pw_below_drewN | apply below_drew1 | refine below_set ?_ GE109.out) | exact HB.out)⟩⟩
  case round =>
    clear H'
    try clear c1
    try clear p2
    try clear hcz3_0
    try clear hcz3_1
    try clear hcz3_2
    try clear hfz3_0
    try clear hfz3_1
    try clear hfz3_2
    obtain ⟨x3_1, x9_1, rfl, rfl, HA, HK1, BK109, HB⟩ := hrel
    cases gk with
    | zero => exact absurd HA.out (by simp [impl_GateSize.l0])
    | succ k1 =>
      have H := HA.out
      clear HA
      simp only [impl_GateSize.l0] at H
      by_cases c4 : x9_1 < (l0_2.length : Int)
      · rw [if_pos c4] at H
        have c4b0 : decide (x9_1 < (l0_2.length : Int)) = true := decide_eq_true c4
        clear c4
        by_cases c5 : 0 ≤ x9_1
        · rw [if_pos c5] at H
          have c5b0 : decide (0 ≤ x9_1) = true := decide_eq_true c5
          clear c5
          by_cases c6 : x9_1 < (l0_2.length : Int)
          · rw [if_pos c6] at H
            have c6b0 : decide (x9_1 < (l0_2.length : Int)) = true := decide_eq_true c6
            clear c6
            replace H := Option.bind_eq_some_iff.mp H
            obtain ⟨t112, A70, H⟩ := H
            replace H : (impl_GateSize.l0 k1 (wrap64 (x3_1 + t112)) l0_2 (l0_2.length : Int) (wrap64 (x9_1 + 1))) = some r := H
            have A7 := Aside0.mk A70
            clear A70
            have H' := Aside0.mk H
            clear H
            have p110 : 0 ≤ (x9_1 : Int) := of_decide_eq_true (by first | (with_reducible assumption) | assumption)
            have q110 : x9_1 < (l0_2.length : Int) := of_decide_eq_true (by first | (with_reducible assumption) | assumption)
            obtain ⟨ad110, A110_2, c110_2, e110, hx110_0, hx110_1, hx110_2, hl110_2, hi110_2⟩ := at_T29 HR0_2.out x9_1 p110 q110
            cases e110
            replace hx110_0 := (HB.out.cell (World.block_lt_of_cell? w _ hx110_0)).trans hx110_0
            replace hx110_1 := (HB.out.cell (World.block_lt_of_cell? w _ hx110_1)).trans hx110_1
            replace hx110_2 := (HB.out.cell (World.block_lt_of_cell? w _ hx110_2)).trans hx110_2
            have HR110_2 := Aside0.mk hi110_2
            have HC110_2 := Aside0.mk hl110_2
            clear hi110_2 hl110_2
            replace p110 := eq_true p110
            replace q110 := eq_true q110
            go_wp2_with (first | ((with_reducible refine gate_dst (N := 5) rfl ?_); refine box_event ?hg (N := 5) ?hd (cs := #[.int .i64 0, .int .i64 0, .slice none 0 0]) (t := 29) ?hr ?_; (case hd => rfl); (case hg => rfl); (case hr => first | (go_simp; done) | (go_simp; rfl)); intro gb111 hg w8 hbox hb; have n0_ := Aside0.mk (blk_below (g := gb109) (o := .cells #[.int .i64 a0_0, .int .i64 a0_1, .slice (some ad110) l0_2.length c0_2] 29 (0, 0)) (by (with_reducible repeat (first | refine blk_drewN ?_ _ | refine blk_drew ?_ | refine blk_alloc ?_ _)); exact BK109.out) hb); have n1_ := Aside0.mk (below_step (by repeat (first | (with_reducible first | exact HB.out | apply below_alloc | apply pw_below_drewN | apply below_drew1 | refine below_set ?_ GE109.out) | exact HB.out)) hb); have n2_ := Aside0.mk (hbox); have n3_ := Aside0.mk ((by rw [hg]; exact (below_size (by repeat (first | (with_reducible first | exact HB.out | apply below_alloc | apply pw_below_drewN | apply below_drew1 | refine below_set ?_ GE109.out) | exact HB.out))) : w.heap.size ≤ gb111)); have n4_ := Aside0.mk ((by rw [hg]; exact (below_size (by repeat (first | (with_reducible first | exact HB.out | apply below_alloc | apply pw_below_drewN | apply below_drew1 | refine below_set ?_ GE109.out) | exact HB.out))) : w.heap.size ≤ gb111)); have n5_ := Aside0.mk ((by rw [hg]; exact Nat.ne_of_lt (blk_lt (g := gb109) (o := .cells #[.int .i64 a0_0, .int .i64 a0_1, .slice (some ad110) l0_2.length c0_2] 29 (0, 0)) (by (with_reducible repeat (first | refine blk_drewN ?_ _ | refine blk_drew ?_ | refine blk_alloc ?_ _)); exact BK109.out)) : gb109 ≠ gb111)); have n6_ := Aside0.mk ((by rw [hg]; exact Nat.ne_of_gt (blk_lt (g := gb109) (o := .cells #[.int .i64 a0_0, .int .i64 a0_1, .slice (some ad110) l0_2.length c0_2] 29 (0, 0)) (by (with_reducible repeat (first | refine blk_drewN ?_ _ | refine blk_drew ?_ | refine blk_alloc ?_ _)); exact BK109.out)) : gb111 ≠ gb109)); clear BK109; clear HB; have BK109 := n0_; have HB := n1_; have BK111 := n2_; have GW111 := n3_; have GE111 := n4_; have NB109_111 := n5_; have NB111_109 := n6_; clear n0_ n1_ n2_ n3_ n4_ n5_ n6_; clear hb hbox hg; have hnb9 := NB111_109.out; have hnc9 := NB109_111.out; have hcz10_0 : w8.cell? ⟨gb111, 0, none⟩ = some (.int .i64 0) := (blk_cell BK111.out 0).trans rfl; have hcz10_1 : w8.cell? ⟨gb111, 1, none⟩ = some (.int .i64 0) := (blk_cell BK111.out 1).trans rfl; have hcz10_2 : w8.cell? ⟨gb111, 2, none⟩ = some (.slice none 0 0) := (blk_cell BK111.out 2).trans rfl; have hfz10_0 := blk_frozen BK111.out 0; have hfz10_1 := blk_frozen BK111.out 1; have hfz10_2 := blk_frozen BK111.out 2) | ((with_reducible refine gate_callee (f := 15) rfl ?_); refine goesL_ (some 15) rfl rfl Try.func15 (by kernel_rfl) rfl #[.agg #[.int .i64 ((rd_T29 l0_2 x9_1).f0), .int .i64 ((rd_T29 l0_2 x9_1).f1), .slice A110_2 ((rd_T29 l0_2 x9_1).f2).length c110_2]] rfl (by (try simp only [List.map_toArray, List.map_cons, List.map_nil]); first | done | rfl | (simp only [List.length_drop, List.length_take]; rfl)) ?_; (with_reducible refine (ih k1 (by have := HK1.out; omega) ((rd_T29 l0_2 x9_1).f0) ((rd_T29 l0_2 x9_1).f1) _ _ ((rd_T29 l0_2 x9_1).f2) t112 _ ?side1 ?side2 A7.out).mono ?_); (case side1 => exact Kd.C_below HR110_2.out (by repeat (first | (with_reducible first | exact HB.out | apply below_alloc | apply pw_below_drewN | apply below_drew1 | refine below_set ?_ GE109.out | refine below_set ?_ GE111.out) | exact HB.out))); (case side2 => exact HC110_2.out); rintro e w11 ⟨rfl, hb⟩; refine ⟨_, rfl, ?_⟩; have n0_ := Aside0.mk (blk_below (g := gb109) (o := .cells #[.int .i64 a0_0, .int .i64 a0_1, .slice (some ad110) l0_2.length c0_2] 29 (0, 0)) (by (with_reducible repeat (first | refine blk_drewN ?_ _ | refine blk_drew ?_ | refine blk_alloc ?_ _)); refine blk_far ?_ NB109_111.out _; (with_reducible repeat (first | refine blk_drewN ?_ _ | refine blk_drew ?_ | refine blk_alloc ?_ _)); refine blk_far ?_ NB109_111.out _; (with_reducible repeat (first | refine blk_drewN ?_ _ | refine blk_drew ?_ | refine blk_alloc ?_ _)); refine blk_far ?_ NB109_111.out _; (with_reducible repeat (first | refine blk_drewN ?_ _ | refine blk_drew ?_ | refine blk_alloc ?_ _)); exact BK109.out) hb); have n1_ := Aside0.mk (blk_below (g := gb111) (o := .cells #[.int .i64 ((rd_T29 l0_2 x9_1).f0), .int .i64 ((rd_T29 l0_2 x9_1).f1), .slice A110_2 ((rd_T29 l0_2 x9_1).f2).length c110_2] 29 (0, 0)) (by (with_reducible repeat (first | refine blk_drewN ?_ _ | refine blk_drew ?_ | refine blk_alloc ?_ _)); refine blk_put (cs := #[.int .i64 ((rd_T29 l0_2 x9_1).f0), .int .i64 ((rd_T29 l0_2 x9_1).f1), .slice none 0 0]) ?_ 2 _ rfl; (with_reducible repeat (first | refine blk_drewN ?_ _ | refine blk_drew ?_ | refine blk_alloc ?_ _)); refine blk_put (cs := #[.int .i64 ((rd_T29 l0_2 x9_1).f0), .int .i64 0, .slice none 0 0]) ?_ 1 _ rfl; (with_reducible repeat (first | refine blk_drewN ?_ _ | refine blk_drew ?_ | refine blk_alloc ?_ _)); refine blk_put (cs := #[.int .i64 0, .int .i64 0, .slice none 0 0]) ?_ 0 _ rfl; (with_reducible repeat (first | refine blk_drewN ?_ _ | refine blk_drew ?_ | refine blk_alloc ?_ _)); exact BK111.out) hb); have n2_ := Aside0.mk (below_step (by repeat (first | (with_reducible first | exact HB.out | apply below_alloc | apply pw_below_drewN | apply below_drew1 | refine below_set ?_ GE109.out | refine below_set ?_ GE111.out) | exact HB.out)) hb); clear BK109; clear BK111; clear HB; have BK109 := n0_; have BK111 := n1_; have HB := n2_; clear n0_ n1_ n2_; (try clear hb); (try clear hb2); (try clear hk); (try clear hi)))
            go_roundg k1
            case measure => have := HK1.out; omega
            case rel => exact ⟨(wrap64 (x3_1 + t112)), (wrap64 (x9_1 + 1)), (by first | rfl | (simp; done) | (simp [*]; done)), (by first | rfl | (simp; done) | (simp [*]; done)), H', ⟨by have := HK1.out; omega⟩, ⟨by (with_reducible repeat (first | refine blk_drewN ?_ _ | refine blk_drew ?_ | refine blk_alloc ?_ _)); exact BK109.out⟩, ⟨by repeat (first | (with_reducible first | exact HB.out | apply below_alloc | apply pw_below_drewN | apply below_drew1 | refine below_set ?_ GE109.out | refine below_set ?_ GE111.out) | exact HB.out)⟩⟩
          · rw [if_neg c6] at H
            exact absurd H (by simp)
        · rw [if_neg c5] at H
          exact absurd H (by simp)
      · rw [if_neg c4] at H
        have c4b0 : decide (x9_1 < (l0_2.length : Int)) = false := decide_eq_false c4
        clear c4
        obtain rfl := Option.some.inj H
        go_wp2
        go_ret
        exact ⟨by first | rfl | (simp [errW_none, errW_some] <;> rfl) | (simp [*, errW_none, errW_some] <;> rfl), by repeat (first | (with_reducible first | exact HB.out | apply below_alloc | apply pw_below_drewN | apply below_drew1 | refine below_set ?_ GE109.out) | exact HB.out)⟩

end Go.Proofs.Ytjnobnmjhpmpfaa.P

namespace Go.Proofs.Ytjnobnmjhpmpfaa.P
open Go.RowKit Go.Proofs.YtjnobnmjhpmpfaaW.PrintWords Go.Proofs.YtjnobnmjhpmpfaaW.PrintLast Go.Proofs.YtjnobnmjhpmpfaaW.PrintMore
attribute [local go_sem] max2_int min2_int max_two min_two max_three min_three max_four min_four
set_option linter.unusedVariables false
set_option linter.unusedSimpArgs false

/-! ### impl_Gate_87: function 87 (by hand) -/
def hasG.f (k : Nat) (p : S29 → Option Bool) (xs : List S29) : Option Bool := (idxG.l0 k p xs 0).bind fun i => some (decide (0 ≤ i))
set_option maxHeartbeats 8000000 in
set_option maxRecDepth 100000 in
theorem hasG.calls (k : Nat) (p : S29 → Option Bool) (g : Nat) (lb : Array Value) (eg : ∀ args w, (callFunc g args).run Try.prog w = .ok (.enter g args) w) (A0 : Option Addr) (c0 : Nat) (l0 : List S29) (r : Bool) (w : World)
    (hr0 : Kd.C k29 w A0 l0.length l0)
    (hp : ∀ (W : World) (x : S29) (A : Option Addr) (c : Nat) (b : Bool), p x = some b → Below w.heap.size w W → Kd.C k29 W A x.f2.length x.f2 → x.f2.length ≤ c → Calls Try.prog g (#[.agg #[.int .i64 x.f0, .int .i64 x.f1, .slice A x.f2.length c]] ++ lb) W fun e w' => e = .returned (.bool b) ∧ Below w.heap.size w w')
    (h : hasG.f k p l0 = some r) :
    Calls Try.prog 87 #[.slice A0 l0.length c0, .func (.func g) #[] lb] w fun e w' => e = .returned (.bool r) ∧ Below w.heap.size w w' := by
  have H := h
  unfold hasG.f at H
  replace H := Option.bind_eq_some_iff.mp H
  obtain ⟨i, Ai, H⟩ := H
  obtain rfl := Option.some.inj H
  have A3 := Aside0.mk Ai
  clear Ai h H
  have HP := Aside0.mk hp
  clear hp
  have HR0 := Aside0.mk hr0
  clear hr0
  go_enter Try.func87, Try.ntmps87
  go_wp2_with (first | ((with_reducible refine gate_callee (f := 100) rfl ?_); refine goesL_ (some 7) rfl rfl Try.func100 (by kernel_rfl) rfl #[.slice A0 l0.length c0, .func (.func g) #[] lb] rfl (by (try simp only [List.map_toArray, List.map_cons, List.map_nil]); first | done | rfl) ?_; (with_reducible refine (idxG.calls k p g lb eg _ _ l0 i _ ?side1 ?side2 A3.out).mono ?_); (case side1 => exact HR0.out); (case side2 => exact HP.out); rintro e w' ⟨rfl, hb⟩; refine ⟨_, rfl, ?_⟩))
  go_ret
  exact ⟨rfl, hb⟩
theorem hasG.mono : ∀ p xs k, LeO (hasG.f k p xs) (hasG.f (k + 1) p xs) := fun p xs k => by
  unfold hasG.f
  exact LeO.bind (idxG.mono_l _ _ _ _) (fun _ => LeO.refl _)

end Go.Proofs.Ytjnobnmjhpmpfaa.P

namespace Go.Proofs.Ytjnobnmjhpmpfaa.P
open Go.RowKit Go.Proofs.YtjnobnmjhpmpfaaW.PrintWords Go.Proofs.YtjnobnmjhpmpfaaW.PrintLast Go.Proofs.YtjnobnmjhpmpfaaW.PrintMore
attribute [local go_sem] max2_int min2_int max_two min_two max_three min_three max_four min_four
set_option linter.unusedVariables false
set_option linter.unusedSimpArgs false

/-! ### impl_Gate_isFormed: function 51 (by hand) -/
def impl_Gate_isFormed.f : Nat → Int → Int → List S29 → Int → Int → Option Bool
  | 0, _, _, _, _, _ => none
  | k + 1, a, b, l, h, d => if d = 0 then some false else (if (l.length : Int) = 0 then ((impl_within.f a 0 (wrap64 (h - 1))).bind fun t => if t = true then some ((b : Int) == 0) else some false) else (if a = -1 then ((impl_within.f b 1 (l.length : Int)).bind fun u => if u = true then ((hasG.f k (fun x => (impl_Gate_isFormed.f k x.f0 x.f1 x.f2 h (wrap64 (d - 1))).bind fun t => some (!t)) l).bind fun v => some (!v)) else some false) else some false))
theorem idxG.mono_k (p p' : S29 → Option Bool) (hp : ∀ x, LeO (p x) (p' x)) : ∀ k xs, LeO (hasG.f k p xs) (hasG.f (k + 1) p' xs) := fun k xs => (hasG.mono p xs k).trans (LeO.bind (idxG.mono_p _ _ _ _ _ hp) (fun _ => LeO.refl _))
theorem impl_Gate_isFormed.mono_l : ∀ k a b l h d, LeO (impl_Gate_isFormed.f k a b l h d) (impl_Gate_isFormed.f (k + 1) a b l h d)
  | 0, _, _, _, _, _ => fun r h => by simp [impl_Gate_isFormed.f] at h
  | k + 1, a, b, l, h, d => by
    have ih := impl_Gate_isFormed.mono_l k
    unfold impl_Gate_isFormed.f
    exact LeO.ite (LeO.refl _) (LeO.ite (LeO.refl _) (LeO.ite (LeO.bind (LeO.refl _) (fun _ => LeO.ite (LeO.bind (idxG.mono_k _ _ (fun x => LeO.bind (ih _ _ _ _ _) (fun _ => LeO.refl _)) _ _) (fun _ => LeO.refl _)) (LeO.refl _))) (LeO.refl _)))
set_option maxHeartbeats 8000000 in
set_option maxRecDepth 100000 in
theorem isFormed_c.calls (k : Nat) (IH : ∀ (a0_0 : Int) (a0_1 : Int) (A0_2 : Option Addr) (c0_2 : Nat) (l0_2 : List S29) (a1 : Int) (a2 : Int) (r : Bool) (w : World) (hr0_2 : Kd.C k29 w A0_2 l0_2.length l0_2) (hc0_2 : l0_2.length ≤ c0_2) (h : impl_Gate_isFormed.f k a0_0 a0_1 l0_2 a1 a2 = some r), Calls Try.prog 51 #[.agg #[.int .i64 a0_0, .int .i64 a0_1, .slice A0_2 l0_2.length c0_2], .int .i64 a1, .int .i64 a2] w fun e w' => e = .returned (.bool r) ∧ Below w.heap.size w w') (h : Int) (d : Int) (B1 B2 : Nat) (x : S29) (A : Option Addr) (c : Nat) (b : Bool) (W : World) (hc1 : W.cell? ⟨B1, 0, none⟩ = some (.int .i64 h)) (hc2 : W.cell? ⟨B2, 0, none⟩ = some (.int .i64 d)) (hr : Kd.C k29 W A x.f2.length x.f2) (hc : x.f2.length ≤ c) (hh : ((impl_Gate_isFormed.f k x.f0 x.f1 x.f2 h (wrap64 (d - 1))).bind fun t => some (!t)) = some b) :
    Calls Try.prog 88 #[.agg #[.int .i64 x.f0, .int .i64 x.f1, .slice A x.f2.length c], .pointer (some ⟨B1, 0, none⟩), .pointer (some ⟨B2, 0, none⟩)] W fun e w' => e = .returned (.bool b) ∧ Below W.heap.size W w' := by
  have hum := Try.underlying29
  replace hh := Option.bind_eq_some_iff.mp hh
  obtain ⟨t, At, H⟩ := hh
  obtain rfl := Option.some.inj H
  have A3 := Aside0.mk At
  have HR := Aside0.mk hr
  have HC := Aside0.mk hc
  clear At H hr hc
  have z1 := ((below_alloc (Below.refl W.heap.size W) (.cells #[.int .i64 x.f0, .int .i64 x.f1, .slice A x.f2.length c] 29 (0, 0))).cell (World.block_lt_of_cell? W _ hc1)).trans hc1
  have z2 := ((below_alloc (Below.refl W.heap.size W) (.cells #[.int .i64 x.f0, .int .i64 x.f1, .slice A x.f2.length c] 29 (0, 0))).cell (World.block_lt_of_cell? W _ hc2)).trans hc2
  go_enter Try.func88, Try.ntmps88
  go_wp2_with (first | (go_at_call 51; (with_reducible refine (IH x.f0 x.f1 _ _ x.f2 h (wrap64 (d - 1)) t _ ?side1 ?side2 A3.out).mono ?_); (case side1 => exact (by repeat (first | exact HR.out | (with_reducible refine Kd.C_alloc ?_ _) | (with_reducible refine Kd.C_drewN ?_ _) | (with_reducible refine Kd.C_drew ?_)))); (case side2 => exact HC.out); rintro e w' ⟨rfl, hb⟩))
  go_ret
  exact ⟨rfl, below_step (by repeat (first | exact Below.refl _ _ | apply below_alloc | apply pw_below_drewN | apply below_drew1)) hb⟩
set_option maxHeartbeats 8000000 in
set_option maxRecDepth 100000 in
theorem impl_Gate_isFormed.calls (k : Nat) : ∀ (a0_0 : Int) (a0_1 : Int) (A0_2 : Option Addr) (c0_2 : Nat) (l0_2 : List S29) (a1 : Int) (a2 : Int) (r : Bool) (w : World) (hr0_2 : Kd.C k29 w A0_2 l0_2.length l0_2) (hc0_2 : l0_2.length ≤ c0_2) (h : impl_Gate_isFormed.f k a0_0 a0_1 l0_2 a1 a2 = some r),
    Calls Try.prog 51 #[.agg #[.int .i64 a0_0, .int .i64 a0_1, .slice A0_2 l0_2.length c0_2], .int .i64 a1, .int .i64 a2] w fun e w' => e = .returned (.bool r) ∧ Below w.heap.size w w' := by
  induction k with
  | zero => intro a0_0 a0_1 A0_2 c0_2 l0_2 a1 a2 r w hr0_2 hc0_2 h; exact absurd h (by simp [impl_Gate_isFormed.f])
  | succ k ih =>
  intro a0_0 a0_1 A0_2 c0_2 l0_2 a1 a2 r w hr0_2 hc0_2 h
  simp only [impl_Gate_isFormed.f] at h
  have IH := Aside0.mk ih
  clear ih
  have HR := Aside0.mk hr0_2
  have HC := Aside0.mk hc0_2
  clear hr0_2 hc0_2
  have hum := Try.underlying29
  have eg : ∀ (args : Array Value) (w : World), (callFunc 88 args).run Try.prog w = .ok (.enter 88 args) w := enters_of Try.func88 (by kernel_rfl) rfl
  by_cases c1 : a2 = 0
  · rw [if_pos c1] at h
    have c1b0 : ((a2 : Int) == 0) = true := beq_iff_eq.mpr c1
    have c1b1 : ((a2 : Int) != 0) = false := bne_eq_false_iff_eq.mpr c1
    clear c1
    obtain rfl := Option.some.inj h
    clear h
    go_enter Try.func51, Try.ntmps51
    go_wp2
    go_ret
    exact ⟨rfl, (by repeat (first | exact Below.refl _ _ | apply below_alloc | apply pw_below_drewN | apply below_drew1))⟩
  · rw [if_neg c1] at h
    have c1b0 : ((a2 : Int) == 0) = false := beq_eq_false_iff_ne.mpr c1
    have c1b1 : ((a2 : Int) != 0) = true := bne_iff_ne.mpr c1
    clear c1
    by_cases c2 : (l0_2.length : Int) = 0
    · rw [if_pos c2] at h
      have c2b0 : (((l0_2.length : Int) : Int) == 0) = true := beq_iff_eq.mpr c2
      have c2b1 : (((l0_2.length : Int) : Int) != 0) = false := bne_eq_false_iff_eq.mpr c2
      have A0 : Aside0 (impl_Gate_isLeaf.f a0_0 a0_1 l0_2 = some true) := ⟨by unfold impl_Gate_isLeaf.f; rw [c2b0]⟩
      clear c2 c2b0 c2b1
      replace h := Option.bind_eq_some_iff.mp h
      obtain ⟨t, At, h⟩ := h
      have A1 := Aside0.mk At
      clear At
      cases t with
      | true =>
        rw [if_pos rfl] at h
        obtain rfl := Option.some.inj h
        clear h
        go_enter Try.func51, Try.ntmps51
        go_wp2_with (first | (go_at_call 86; (with_reducible refine (impl_Gate_isLeaf.calls a0_0 a0_1 _ _ l0_2 _ _ ?side1 ?side2 A0.out).mono ?_); (case side1 => exact (by repeat (first | exact HR.out | (with_reducible refine Kd.C_alloc ?_ _) | (with_reducible refine Kd.C_drewN ?_ _) | (with_reducible refine Kd.C_drew ?_)))); (case side2 => exact HC.out); rintro e w1 ⟨rfl, hb⟩; have n1_ := Aside0.mk (blk_below (g := w.heap.size) (o := .cells #[.int .i64 a0_0, .int .i64 a0_1, .slice A0_2 l0_2.length c0_2] 29 (0, 0)) (by repeat (first | exact blk_new_at (by simp) | (with_reducible refine blk_drewN ?_ _) | (with_reducible refine blk_drew ?_) | (with_reducible refine blk_alloc ?_ _))) hb); have n2_ := Aside0.mk (blk_below (g := w.heap.size + 1) (o := .cells #[.int .i64 a1] 2 (0, 0)) (by repeat (first | exact blk_new_at (by simp) | (with_reducible refine blk_drewN ?_ _) | (with_reducible refine blk_drew ?_) | (with_reducible refine blk_alloc ?_ _))) hb); have n3_ := Aside0.mk (blk_below (g := w.heap.size + 2) (o := .cells #[.int .i64 a2] 3 (0, 0)) (by repeat (first | exact blk_new_at (by simp) | (with_reducible refine blk_drewN ?_ _) | (with_reducible refine blk_drew ?_) | (with_reducible refine blk_alloc ?_ _))) hb); have n9_ : Aside0 (Below w.heap.size w w1) := Aside0.mk (below_step (by repeat (first | exact Below.refl _ _ | apply below_alloc | apply pw_below_drewN | apply below_drew1)) hb); clear hb; have hl1 : w.heap.size + 2 < w1.heap.size := blk_lt n3_.out; have hx0 : w1.cell? ⟨w.heap.size, 0, none⟩ = some (.int .i64 a0_0) := (blk_cell n1_.out 0).trans rfl; have hx1 : w1.cell? ⟨w.heap.size, 1, none⟩ = some (.int .i64 a0_1) := (blk_cell n1_.out 1).trans rfl; have hx2 : w1.cell? ⟨w.heap.size, 2, none⟩ = some (.slice A0_2 l0_2.length c0_2) := (blk_cell n1_.out 2).trans rfl; have hy0 : w1.cell? ⟨w.heap.size + 1, 0, none⟩ = some (.int .i64 a1) := (blk_cell n2_.out 0).trans rfl; have hz0 : w1.cell? ⟨w.heap.size + 2, 0, none⟩ = some (.int .i64 a2) := (blk_cell n3_.out 0).trans rfl) | (go_at_call 50; (with_reducible refine (impl_within.calls a0_0 0 (wrap64 (a1 - 1)) true _ A1.out).mono ?_); rintro e w' ⟨rfl, ⟨nd, rfl⟩⟩))
        go_ret
        exact ⟨(by first | rfl | (simp; done) | (simp [*]; done)), (by repeat (first | exact n9_.out | apply below_alloc | apply pw_below_drewN | apply below_drew1))⟩
      | false =>
        rw [if_neg (by decide)] at h
        obtain rfl := Option.some.inj h
        clear h
        go_enter Try.func51, Try.ntmps51
        go_wp2_with (first | (go_at_call 86; (with_reducible refine (impl_Gate_isLeaf.calls a0_0 a0_1 _ _ l0_2 _ _ ?side1 ?side2 A0.out).mono ?_); (case side1 => exact (by repeat (first | exact HR.out | (with_reducible refine Kd.C_alloc ?_ _) | (with_reducible refine Kd.C_drewN ?_ _) | (with_reducible refine Kd.C_drew ?_)))); (case side2 => exact HC.out); rintro e w1 ⟨rfl, hb⟩; have n1_ := Aside0.mk (blk_below (g := w.heap.size) (o := .cells #[.int .i64 a0_0, .int .i64 a0_1, .slice A0_2 l0_2.length c0_2] 29 (0, 0)) (by repeat (first | exact blk_new_at (by simp) | (with_reducible refine blk_drewN ?_ _) | (with_reducible refine blk_drew ?_) | (with_reducible refine blk_alloc ?_ _))) hb); have n2_ := Aside0.mk (blk_below (g := w.heap.size + 1) (o := .cells #[.int .i64 a1] 2 (0, 0)) (by repeat (first | exact blk_new_at (by simp) | (with_reducible refine blk_drewN ?_ _) | (with_reducible refine blk_drew ?_) | (with_reducible refine blk_alloc ?_ _))) hb); have n3_ := Aside0.mk (blk_below (g := w.heap.size + 2) (o := .cells #[.int .i64 a2] 3 (0, 0)) (by repeat (first | exact blk_new_at (by simp) | (with_reducible refine blk_drewN ?_ _) | (with_reducible refine blk_drew ?_) | (with_reducible refine blk_alloc ?_ _))) hb); have n9_ : Aside0 (Below w.heap.size w w1) := Aside0.mk (below_step (by repeat (first | exact Below.refl _ _ | apply below_alloc | apply pw_below_drewN | apply below_drew1)) hb); clear hb; have hl1 : w.heap.size + 2 < w1.heap.size := blk_lt n3_.out; have hx0 : w1.cell? ⟨w.heap.size, 0, none⟩ = some (.int .i64 a0_0) := (blk_cell n1_.out 0).trans rfl; have hx1 : w1.cell? ⟨w.heap.size, 1, none⟩ = some (.int .i64 a0_1) := (blk_cell n1_.out 1).trans rfl; have hx2 : w1.cell? ⟨w.heap.size, 2, none⟩ = some (.slice A0_2 l0_2.length c0_2) := (blk_cell n1_.out 2).trans rfl; have hy0 : w1.cell? ⟨w.heap.size + 1, 0, none⟩ = some (.int .i64 a1) := (blk_cell n2_.out 0).trans rfl; have hz0 : w1.cell? ⟨w.heap.size + 2, 0, none⟩ = some (.int .i64 a2) := (blk_cell n3_.out 0).trans rfl) | (go_at_call 50; (with_reducible refine (impl_within.calls a0_0 0 (wrap64 (a1 - 1)) false _ A1.out).mono ?_); rintro e w' ⟨rfl, ⟨nd, rfl⟩⟩))
        go_ret
        exact ⟨(by first | rfl | (simp; done) | (simp [*]; done)), (by repeat (first | exact n9_.out | apply below_alloc | apply pw_below_drewN | apply below_drew1))⟩
    · rw [if_neg c2] at h
      have c2b0 : (((l0_2.length : Int) : Int) == 0) = false := beq_eq_false_iff_ne.mpr c2
      have c2b1 : (((l0_2.length : Int) : Int) != 0) = true := bne_iff_ne.mpr c2
      have A0 : Aside0 (impl_Gate_isLeaf.f a0_0 a0_1 l0_2 = some false) := ⟨by unfold impl_Gate_isLeaf.f; rw [c2b0]⟩
      clear c2 c2b0 c2b1
      by_cases c3 : a0_0 = -1
      · rw [if_pos c3] at h
        have c3b0 : ((a0_0 : Int) == -1) = true := beq_iff_eq.mpr c3
        have c3b1 : ((a0_0 : Int) != -1) = false := bne_eq_false_iff_eq.mpr c3
        clear c3
        replace h := Option.bind_eq_some_iff.mp h
        obtain ⟨u, Au, h⟩ := h
        have A1 := Aside0.mk Au
        clear Au
        cases u with
        | true =>
          rw [if_pos rfl] at h
          replace h := Option.bind_eq_some_iff.mp h
          obtain ⟨v, Av, h⟩ := h
          have A2 := Aside0.mk Av
          clear Av
          obtain rfl := Option.some.inj h
          clear h
          go_enter Try.func51, Try.ntmps51
          go_wp2_with (first | (go_at_call 86; (with_reducible refine (impl_Gate_isLeaf.calls a0_0 a0_1 _ _ l0_2 _ _ ?side1 ?side2 A0.out).mono ?_); (case side1 => exact (by repeat (first | exact HR.out | (with_reducible refine Kd.C_alloc ?_ _) | (with_reducible refine Kd.C_drewN ?_ _) | (with_reducible refine Kd.C_drew ?_)))); (case side2 => exact HC.out); rintro e w1 ⟨rfl, hb⟩; have n1_ := Aside0.mk (blk_below (g := w.heap.size) (o := .cells #[.int .i64 a0_0, .int .i64 a0_1, .slice A0_2 l0_2.length c0_2] 29 (0, 0)) (by repeat (first | exact blk_new_at (by simp) | (with_reducible refine blk_drewN ?_ _) | (with_reducible refine blk_drew ?_) | (with_reducible refine blk_alloc ?_ _))) hb); have n2_ := Aside0.mk (blk_below (g := w.heap.size + 1) (o := .cells #[.int .i64 a1] 2 (0, 0)) (by repeat (first | exact blk_new_at (by simp) | (with_reducible refine blk_drewN ?_ _) | (with_reducible refine blk_drew ?_) | (with_reducible refine blk_alloc ?_ _))) hb); have n3_ := Aside0.mk (blk_below (g := w.heap.size + 2) (o := .cells #[.int .i64 a2] 3 (0, 0)) (by repeat (first | exact blk_new_at (by simp) | (with_reducible refine blk_drewN ?_ _) | (with_reducible refine blk_drew ?_) | (with_reducible refine blk_alloc ?_ _))) hb); have n9_ : Aside0 (Below w.heap.size w w1) := Aside0.mk (below_step (by repeat (first | exact Below.refl _ _ | apply below_alloc | apply pw_below_drewN | apply below_drew1)) hb); clear hb; have hl1 : w.heap.size + 2 < w1.heap.size := blk_lt n3_.out; have hx0 : w1.cell? ⟨w.heap.size, 0, none⟩ = some (.int .i64 a0_0) := (blk_cell n1_.out 0).trans rfl; have hx1 : w1.cell? ⟨w.heap.size, 1, none⟩ = some (.int .i64 a0_1) := (blk_cell n1_.out 1).trans rfl; have hx2 : w1.cell? ⟨w.heap.size, 2, none⟩ = some (.slice A0_2 l0_2.length c0_2) := (blk_cell n1_.out 2).trans rfl; have hy0 : w1.cell? ⟨w.heap.size + 1, 0, none⟩ = some (.int .i64 a1) := (blk_cell n2_.out 0).trans rfl; have hz0 : w1.cell? ⟨w.heap.size + 2, 0, none⟩ = some (.int .i64 a2) := (blk_cell n3_.out 0).trans rfl) | (go_at_call 50; (with_reducible refine (impl_within.calls a0_1 1 (l0_2.length : Int) true _ A1.out).mono ?_); rintro e w' ⟨rfl, ⟨nd, rfl⟩⟩) | (go_at_call 87; (with_reducible refine (hasG.calls k (fun x => (impl_Gate_isFormed.f k x.f0 x.f1 x.f2 a1 (wrap64 (a2 - 1))).bind fun t => some (!t)) 88 #[.pointer (some ⟨w.heap.size + 1, 0, none⟩), .pointer (some ⟨w.heap.size + 2, 0, none⟩)] eg _ _ l0_2 v _ ?side1 ?side2 A2.out).mono ?_); (case side1 => exact Kd.C_below HR.out (by repeat (first | exact n9_.out | apply below_alloc | apply pw_below_drewN | apply below_drew1))); (case side2 => exact fun W x A c b hx hb hr hc => (isFormed_c.calls k IH.out a1 a2 (w.heap.size + 1) (w.heap.size + 2) x A c b W ((hb.cell (p := ⟨w.heap.size + 1, 0, none⟩) (by simp; omega)).trans ((by first | exact hy0 | simpa using hy0))) ((hb.cell (p := ⟨w.heap.size + 2, 0, none⟩) (by simp; omega)).trans ((by first | exact hz0 | simpa using hz0))) hr hc hx).mono (fun e w' ⟨he, hd⟩ => ⟨he, below_step hb hd⟩)); rintro e w2 ⟨rfl, hb⟩))
          go_ret
          exact ⟨rfl, below_step (by repeat (first | exact n9_.out | apply below_alloc | apply pw_below_drewN | apply below_drew1)) hb⟩
        | false =>
          rw [if_neg (by decide)] at h
          obtain rfl := Option.some.inj h
          clear h
          go_enter Try.func51, Try.ntmps51
          go_wp2_with (first | (go_at_call 86; (with_reducible refine (impl_Gate_isLeaf.calls a0_0 a0_1 _ _ l0_2 _ _ ?side1 ?side2 A0.out).mono ?_); (case side1 => exact (by repeat (first | exact HR.out | (with_reducible refine Kd.C_alloc ?_ _) | (with_reducible refine Kd.C_drewN ?_ _) | (with_reducible refine Kd.C_drew ?_)))); (case side2 => exact HC.out); rintro e w1 ⟨rfl, hb⟩; have n1_ := Aside0.mk (blk_below (g := w.heap.size) (o := .cells #[.int .i64 a0_0, .int .i64 a0_1, .slice A0_2 l0_2.length c0_2] 29 (0, 0)) (by repeat (first | exact blk_new_at (by simp) | (with_reducible refine blk_drewN ?_ _) | (with_reducible refine blk_drew ?_) | (with_reducible refine blk_alloc ?_ _))) hb); have n2_ := Aside0.mk (blk_below (g := w.heap.size + 1) (o := .cells #[.int .i64 a1] 2 (0, 0)) (by repeat (first | exact blk_new_at (by simp) | (with_reducible refine blk_drewN ?_ _) | (with_reducible refine blk_drew ?_) | (with_reducible refine blk_alloc ?_ _))) hb); have n3_ := Aside0.mk (blk_below (g := w.heap.size + 2) (o := .cells #[.int .i64 a2] 3 (0, 0)) (by repeat (first | exact blk_new_at (by simp) | (with_reducible refine blk_drewN ?_ _) | (with_reducible refine blk_drew ?_) | (with_reducible refine blk_alloc ?_ _))) hb); have n9_ : Aside0 (Below w.heap.size w w1) := Aside0.mk (below_step (by repeat (first | exact Below.refl _ _ | apply below_alloc | apply pw_below_drewN | apply below_drew1)) hb); clear hb; have hl1 : w.heap.size + 2 < w1.heap.size := blk_lt n3_.out; have hx0 : w1.cell? ⟨w.heap.size, 0, none⟩ = some (.int .i64 a0_0) := (blk_cell n1_.out 0).trans rfl; have hx1 : w1.cell? ⟨w.heap.size, 1, none⟩ = some (.int .i64 a0_1) := (blk_cell n1_.out 1).trans rfl; have hx2 : w1.cell? ⟨w.heap.size, 2, none⟩ = some (.slice A0_2 l0_2.length c0_2) := (blk_cell n1_.out 2).trans rfl; have hy0 : w1.cell? ⟨w.heap.size + 1, 0, none⟩ = some (.int .i64 a1) := (blk_cell n2_.out 0).trans rfl; have hz0 : w1.cell? ⟨w.heap.size + 2, 0, none⟩ = some (.int .i64 a2) := (blk_cell n3_.out 0).trans rfl) | (go_at_call 50; (with_reducible refine (impl_within.calls a0_1 1 (l0_2.length : Int) false _ A1.out).mono ?_); rintro e w' ⟨rfl, ⟨nd, rfl⟩⟩))
          go_ret
          exact ⟨(by first | rfl | (simp; done) | (simp [*]; done)), (by repeat (first | exact n9_.out | apply below_alloc | apply pw_below_drewN | apply below_drew1))⟩
      · rw [if_neg c3] at h
        have c3b0 : ((a0_0 : Int) == -1) = false := beq_eq_false_iff_ne.mpr c3
        have c3b1 : ((a0_0 : Int) != -1) = true := bne_iff_ne.mpr c3
        clear c3
        obtain rfl := Option.some.inj h
        clear h
        go_enter Try.func51, Try.ntmps51
        go_wp2_with (first | (go_at_call 86; (with_reducible refine (impl_Gate_isLeaf.calls a0_0 a0_1 _ _ l0_2 _ _ ?side1 ?side2 A0.out).mono ?_); (case side1 => exact (by repeat (first | exact HR.out | (with_reducible refine Kd.C_alloc ?_ _) | (with_reducible refine Kd.C_drewN ?_ _) | (with_reducible refine Kd.C_drew ?_)))); (case side2 => exact HC.out); rintro e w1 ⟨rfl, hb⟩; have n1_ := Aside0.mk (blk_below (g := w.heap.size) (o := .cells #[.int .i64 a0_0, .int .i64 a0_1, .slice A0_2 l0_2.length c0_2] 29 (0, 0)) (by repeat (first | exact blk_new_at (by simp) | (with_reducible refine blk_drewN ?_ _) | (with_reducible refine blk_drew ?_) | (with_reducible refine blk_alloc ?_ _))) hb); have n2_ := Aside0.mk (blk_below (g := w.heap.size + 1) (o := .cells #[.int .i64 a1] 2 (0, 0)) (by repeat (first | exact blk_new_at (by simp) | (with_reducible refine blk_drewN ?_ _) | (with_reducible refine blk_drew ?_) | (with_reducible refine blk_alloc ?_ _))) hb); have n3_ := Aside0.mk (blk_below (g := w.heap.size + 2) (o := .cells #[.int .i64 a2] 3 (0, 0)) (by repeat (first | exact blk_new_at (by simp) | (with_reducible refine blk_drewN ?_ _) | (with_reducible refine blk_drew ?_) | (with_reducible refine blk_alloc ?_ _))) hb); have n9_ : Aside0 (Below w.heap.size w w1) := Aside0.mk (below_step (by repeat (first | exact Below.refl _ _ | apply below_alloc | apply pw_below_drewN | apply below_drew1)) hb); clear hb; have hl1 : w.heap.size + 2 < w1.heap.size := blk_lt n3_.out; have hx0 : w1.cell? ⟨w.heap.size, 0, none⟩ = some (.int .i64 a0_0) := (blk_cell n1_.out 0).trans rfl; have hx1 : w1.cell? ⟨w.heap.size, 1, none⟩ = some (.int .i64 a0_1) := (blk_cell n1_.out 1).trans rfl; have hx2 : w1.cell? ⟨w.heap.size, 2, none⟩ = some (.slice A0_2 l0_2.length c0_2) := (blk_cell n1_.out 2).trans rfl; have hy0 : w1.cell? ⟨w.heap.size + 1, 0, none⟩ = some (.int .i64 a1) := (blk_cell n2_.out 0).trans rfl; have hz0 : w1.cell? ⟨w.heap.size + 2, 0, none⟩ = some (.int .i64 a2) := (blk_cell n3_.out 0).trans rfl))
        go_ret
        exact ⟨(by first | rfl | (simp; done) | (simp [*]; done)), (by repeat (first | exact n9_.out | apply below_alloc | apply pw_below_drewN | apply below_drew1))⟩

end Go.Proofs.Ytjnobnmjhpmpfaa.P

namespace Go.Proofs.Ytjnobnmjhpmpfaa.P
open Go.RowKit Go.Proofs.YtjnobnmjhpmpfaaW.PrintWords Go.Proofs.YtjnobnmjhpmpfaaW.PrintLast Go.Proofs.YtjnobnmjhpmpfaaW.PrintMore
attribute [local go_sem] max2_int min2_int max_two min_two max_three min_three max_four min_four
set_option linter.unusedVariables false
set_option linter.unusedSimpArgs false

/-! ### impl_ValidGate: function 20 (by hand) -/
def impl_ValidGate.f (k : Nat) (h : Int) (a : Int) (b : Int) (l : List S29) : Option Bool := (impl_within.f h 1 7).bind fun t => if t = true then ((impl_Gate_isFormed.f k a b l h 12).bind fun u => if u = true then ((impl_GateSize.f k a b l).bind fun v => some (decide (v ≤ 60))) else some false) else some false
set_option maxHeartbeats 8000000 in
set_option maxRecDepth 100000 in
theorem impl_ValidGate.calls (k : Nat) (a0 : Int) (a1_0 : Int) (a1_1 : Int) (A1_2 : Option Addr) (c1_2 : Nat) (l1_2 : List S29) (r : Bool) (w : World) (hr1_2 : Kd.C k29 w A1_2 l1_2.length l1_2) (hc1_2 : l1_2.length ≤ c1_2) (h : impl_ValidGate.f k a0 a1_0 a1_1 l1_2 = some r) :
    Calls Try.prog 20 #[.int .i64 a0, .agg #[.int .i64 a1_0, .int .i64 a1_1, .slice A1_2 l1_2.length c1_2]] w fun e w' => e = .returned (.bool r) ∧ Below w.heap.size w w' := by
  have HR := Aside0.mk hr1_2
  have HC := Aside0.mk hc1_2
  clear hr1_2 hc1_2
  have hum := Try.underlying29
  unfold impl_ValidGate.f at h
  replace h := Option.bind_eq_some_iff.mp h
  obtain ⟨t, At, h⟩ := h
  have A1 := Aside0.mk At
  clear At
  cases t with
  | false =>
    rw [if_neg (by decide)] at h
    obtain rfl := Option.some.inj h
    clear h
    go_enter Try.func20, Try.ntmps20
    go_wp2_with (first | (go_at_call 50; (with_reducible refine (impl_within.calls a0 1 7 false _ A1.out).mono ?_); rintro e w' ⟨rfl, ⟨nd, rfl⟩⟩))
    go_ret
    exact ⟨rfl, (by repeat (first | exact Below.refl _ _ | apply below_alloc | apply pw_below_drewN | apply below_drew1))⟩
  | true =>
    rw [if_pos rfl] at h
    replace h := Option.bind_eq_some_iff.mp h
    obtain ⟨u, Au, h⟩ := h
    have A2 := Aside0.mk Au
    clear Au
    cases u with
    | false =>
      rw [if_neg (by decide)] at h
      obtain rfl := Option.some.inj h
      clear h
      go_enter Try.func20, Try.ntmps20
      go_wp2_with (first | (go_at_call 50; (with_reducible refine (impl_within.calls a0 1 7 true _ A1.out).mono ?_); rintro e w' ⟨rfl, ⟨nd, rfl⟩⟩) | (go_at_call 51; (with_reducible refine (impl_Gate_isFormed.calls k a1_0 a1_1 _ _ l1_2 a0 12 false _ ?side1 ?side2 A2.out).mono ?_); (case side1 => exact (by repeat (first | exact HR.out | (with_reducible refine Kd.C_alloc ?_ _) | (with_reducible refine Kd.C_drewN ?_ _) | (with_reducible refine Kd.C_drew ?_)))); (case side2 => exact HC.out); rintro e w1 ⟨rfl, hb⟩; have n1_ := Aside0.mk (blk_below (g := w.heap.size) (o := .cells #[.int .i64 a1_0, .int .i64 a1_1, .slice A1_2 l1_2.length c1_2] 29 (0, 0)) (by repeat (first | exact blk_new_at (by simp) | (with_reducible refine blk_drewN ?_ _) | (with_reducible refine blk_drew ?_) | (with_reducible refine blk_alloc ?_ _))) hb); have n9_ : Aside0 (Below w.heap.size w w1) := Aside0.mk (below_step (by repeat (first | exact Below.refl _ _ | apply below_alloc | apply pw_below_drewN | apply below_drew1)) hb); clear hb; have hx0 : w1.cell? ⟨w.heap.size, 0, none⟩ = some (.int .i64 a1_0) := (blk_cell n1_.out 0).trans rfl; have hx1 : w1.cell? ⟨w.heap.size, 1, none⟩ = some (.int .i64 a1_1) := (blk_cell n1_.out 1).trans rfl; have hx2 : w1.cell? ⟨w.heap.size, 2, none⟩ = some (.slice A1_2 l1_2.length c1_2) := (blk_cell n1_.out 2).trans rfl))
      go_ret
      exact ⟨(by first | rfl | (simp; done) | (simp [*]; done)), (by repeat (first | exact n9_.out | apply below_alloc | apply pw_below_drewN | apply below_drew1))⟩
    | true =>
      rw [if_pos rfl] at h
      replace h := Option.bind_eq_some_iff.mp h
      obtain ⟨v, Av, h⟩ := h
      have A3 := Aside0.mk Av
      clear Av
      obtain rfl := Option.some.inj h
      clear h
      go_enter Try.func20, Try.ntmps20
      go_wp2_with (first | (go_at_call 50; (with_reducible refine (impl_within.calls a0 1 7 true _ A1.out).mono ?_); rintro e w' ⟨rfl, ⟨nd, rfl⟩⟩) | (go_at_call 51; (with_reducible refine (impl_Gate_isFormed.calls k a1_0 a1_1 _ _ l1_2 a0 12 true _ ?side1 ?side2 A2.out).mono ?_); (case side1 => exact (by repeat (first | exact HR.out | (with_reducible refine Kd.C_alloc ?_ _) | (with_reducible refine Kd.C_drewN ?_ _) | (with_reducible refine Kd.C_drew ?_)))); (case side2 => exact HC.out); rintro e w1 ⟨rfl, hb⟩; have n1_ := Aside0.mk (blk_below (g := w.heap.size) (o := .cells #[.int .i64 a1_0, .int .i64 a1_1, .slice A1_2 l1_2.length c1_2] 29 (0, 0)) (by repeat (first | exact blk_new_at (by simp) | (with_reducible refine blk_drewN ?_ _) | (with_reducible refine blk_drew ?_) | (with_reducible refine blk_alloc ?_ _))) hb); have n9_ : Aside0 (Below w.heap.size w w1) := Aside0.mk (below_step (by repeat (first | exact Below.refl _ _ | apply below_alloc | apply pw_below_drewN | apply below_drew1)) hb); clear hb; have hx0 : w1.cell? ⟨w.heap.size, 0, none⟩ = some (.int .i64 a1_0) := (blk_cell n1_.out 0).trans rfl; have hx1 : w1.cell? ⟨w.heap.size, 1, none⟩ = some (.int .i64 a1_1) := (blk_cell n1_.out 1).trans rfl; have hx2 : w1.cell? ⟨w.heap.size, 2, none⟩ = some (.slice A1_2 l1_2.length c1_2) := (blk_cell n1_.out 2).trans rfl) | (go_at_call 15; (with_reducible refine (impl_GateSize.calls k a1_0 a1_1 _ _ l1_2 v _ ?side1 ?side2 A3.out).mono ?_); (case side1 => exact Kd.C_below HR.out (by repeat (first | exact n9_.out | apply below_alloc | apply pw_below_drewN | apply below_drew1))); (case side2 => exact HC.out); rintro e w2 ⟨rfl, hb⟩))
      go_ret
      exact ⟨rfl, below_step (by repeat (first | exact n9_.out | apply below_alloc | apply pw_below_drewN | apply below_drew1)) hb⟩

end Go.Proofs.Ytjnobnmjhpmpfaa.P

namespace Go.Proofs.Ytjnobnmjhpmpfaa.P
open Go.RowKit Go.Proofs.YtjnobnmjhpmpfaaW.PrintWords Go.Proofs.YtjnobnmjhpmpfaaW.PrintLast Go.Proofs.YtjnobnmjhpmpfaaW.PrintMore
attribute [local go_sem] max2_int min2_int max_two min_two max_three min_three max_four min_four
set_option linter.unusedVariables false
set_option linter.unusedSimpArgs false

/-! ### laws_szGateS: function 43 -/
mutual
def laws_szGateS.l0 : Nat → List (S24) → Int → Int → Option (Int)
  | 0, _, _, _ => none
  | k + 1, x0, x1, x5 => if x5 < (x0.length : Int) then (if 0 ≤ x5 then ((laws_szGate.f k ((rd_T24 x0 x5).f0) ((rd_T24 x0 x5).f1) ((rd_T24 x0 x5).f2) x1).bind fun t108 => (if t108 < 0 then (some (-1)) else (laws_szGateS.l0 k x0 t108 (wrap64 (x5 + 1))))) else (none)) else (some x1)
def laws_szGateS.f : Nat → List (S24) → Int → Option (Int)
  | 0, _, _ => none
  | k + 1, l0, a1 => if (wrap64 (a1 - (l0.length : Int))) < 0 then (some (-1)) else (laws_szGateS.l0 k l0 (wrap64 (a1 - (l0.length : Int))) 0)
def laws_szGate.f : Nat → Int → Int → (List (S24)) → Int → Option (Int)
  | 0, _, _, _, _ => none
  | k + 1, a0_0, a0_1, l0_2, a1 => (laws_szGateS.f k l0_2 a1).bind fun t106 => (if t106 < 0 then (some (-1)) else (some t106))
end
set_option maxHeartbeats 8000000 in
set_option maxRecDepth 100000 in
theorem laws_szGate.calls_of (k : Nat) (IH : ∀ (A0 : Option Addr) (c0 : Nat) (l0 : List (S24)) (a1 : Int) (r : Int) (w : World) (hr0 : Kd.C k24 w A0 l0.length l0) (hc0 : l0.length ≤ c0) (h : laws_szGateS.f k l0 a1 = some r), Calls Try.prog 43 #[.slice A0 l0.length c0, .int .i64 a1] w fun e w' => e = .returned (.int .i64 r) ∧ Below w.heap.size w w') (a0_0 : Int) (a0_1 : Int) (A0_2 : Option Addr) (c0_2 : Nat) (l0_2 : List (S24)) (a1 : Int) (r : Int) (w : World) (hr0_2 : Kd.C k24 w A0_2 l0_2.length l0_2) (hc0_2 : l0_2.length ≤ c0_2) (h : laws_szGate.f (k + 1) a0_0 a0_1 l0_2 a1 = some r) :
    Calls Try.prog 12 #[.agg #[.int .i64 a0_0, .int .i64 a0_1, .slice A0_2 l0_2.length c0_2], .int .i64 a1] w fun e w' => e = .returned (.int .i64 r) ∧ Below w.heap.size w w' := by
  simp only [laws_szGate.f] at h
  have hu24 := Try.underlying24
  have HR0_2 := Aside0.mk hr0_2
  have HC0_2 := Aside0.mk hc0_2
  clear hr0_2 hc0_2
  have HB := Aside0.mk (Below.refl w.heap.size w)
  have H : ((laws_szGateS.f k l0_2 a1).bind fun t106 => (if t106 < 0 then (some (-1)) else (some t106))) = some r := h
  clear h
  replace H := Option.bind_eq_some_iff.mp H
  obtain ⟨t106, A30, H⟩ := H
  replace H : (if t106 < 0 then (some (-1)) else (some t106)) = some r := H
  have A3 := Aside0.mk A30
  clear A30
  by_cases c4 : t106 < 0
  · rw [if_pos c4] at H
    have c4b0 : decide (t106 < 0) = true := decide_eq_true c4
    clear c4
    obtain rfl := Option.some.inj H
    go_enter Try.func12, Try.ntmps12
    go_wp2_with (first | ((with_reducible refine gate_dst (N := 2) rfl ?_); refine box_event ?hg (N := 2) ?hd (cs := #[.int .i64 a0_0, .int .i64 a0_1, .slice A0_2 l0_2.length c0_2]) (t := 24) ?hr ?_; (case hd => rfl); (case hg => rfl); (case hr => first | (go_simp; done) | (go_simp; rfl)); intro gb105 hg w5 hbox hb; have n0_ := Aside0.mk (below_step (by repeat (first | (with_reducible first | exact HB.out | apply below_alloc | apply pw_below_drewN | apply below_drew1) | exact HB.out)) hb); have n1_ := Aside0.mk (hbox); have n2_ := Aside0.mk ((by rw [hg]; exact (below_size (by repeat (first | (with_reducible first | exact HB.out | apply below_alloc | apply pw_below_drewN | apply below_drew1) | exact HB.out))) : w.heap.size ≤ gb105)); have n3_ := Aside0.mk ((by rw [hg]; exact (below_size (by repeat (first | (with_reducible first | exact HB.out | apply below_alloc | apply pw_below_drewN | apply below_drew1) | exact HB.out))) : w.heap.size ≤ gb105)); clear HB; have HB := n0_; have BK105 := n1_; have GW105 := n2_; have GE105 := n3_; clear n0_ n1_ n2_ n3_; clear hb hbox hg; have hcz6_0 : w5.cell? ⟨gb105, 0, none⟩ = some (.int .i64 a0_0) := (blk_cell BK105.out 0).trans rfl; have hcz6_1 : w5.cell? ⟨gb105, 1, none⟩ = some (.int .i64 a0_1) := (blk_cell BK105.out 1).trans rfl; have hcz6_2 : w5.cell? ⟨gb105, 2, none⟩ = some (.slice A0_2 l0_2.length c0_2) := (blk_cell BK105.out 2).trans rfl; have hfz6_0 := blk_frozen BK105.out 0; have hfz6_1 := blk_frozen BK105.out 1; have hfz6_2 := blk_frozen BK105.out 2) | ((with_reducible refine gate_callee (f := 43) rfl ?_); refine goesL_ (some 8) rfl rfl Try.func43 (by kernel_rfl) rfl #[.slice A0_2 l0_2.length c0_2, .int .i64 a1] rfl (by (try simp only [List.map_toArray, List.map_cons, List.map_nil]); first | done | rfl | (simp only [List.length_drop, List.length_take]; rfl)) ?_; (with_reducible refine (IH _ _ l0_2 a1 t106 _ ?side1 ?side2 A3.out).mono ?_); (case side1 => repeat (first | exact (Kd.C_below HR0_2.out HB.out) | (with_reducible refine Kd.C_alloc ?_ _) | (with_reducible refine Kd.C_drewN ?_ _) | (with_reducible refine Kd.C_drew ?_))); (case side2 => exact HC0_2.out); rintro e w7 ⟨rfl, hb⟩; refine ⟨_, rfl, ?_⟩; have n0_ := Aside0.mk (blk_below (g := gb105) (o := .cells #[.int .i64 a0_0, .int .i64 a0_1, .slice A0_2 l0_2.length c0_2] 24 (0, 0)) (by (with_reducible repeat (first | refine blk_drewN ?_ _ | refine blk_drew ?_ | refine blk_alloc ?_ _)); exact BK105.out) hb); have n1_ := Aside0.mk (below_step (by repeat (first | (with_reducible first | exact HB.out | apply below_alloc | apply pw_below_drewN | apply below_drew1 | refine below_set ?_ GE105.out) | exact HB.out)) hb); clear BK105; clear HB; have BK105 := n0_; have HB := n1_; clear n0_ n1_; (try clear hb); (try clear hb2); (try clear hk); (try clear hi)))
    go_ret
    exact ⟨by first | rfl | (simp [errW_none, errW_some] <;> rfl) | (simp [*, errW_none, errW_some] <;> rfl), by repeat (first | (with_reducible first | exact HB.out | apply below_alloc | apply pw_below_drewN | apply below_drew1 | refine below_set ?_ GE105.out) | exact HB.out)⟩
  · rw [if_neg c4] at H
    have c4b0 : decide (t106 < 0) = false := decide_eq_false c4
    clear c4
    obtain rfl := Option.some.inj H
    go_enter Try.func12, Try.ntmps12
    go_wp2_with (first | ((with_reducible refine gate_dst (N := 2) rfl ?_); refine box_event ?hg (N := 2) ?hd (cs := #[.int .i64 a0_0, .int .i64 a0_1, .slice A0_2 l0_2.length c0_2]) (t := 24) ?hr ?_; (case hd => rfl); (case hg => rfl); (case hr => first | (go_simp; done) | (go_simp; rfl)); intro gb105 hg w8 hbox hb; have n0_ := Aside0.mk (below_step (by repeat (first | (with_reducible first | exact HB.out | apply below_alloc | apply pw_below_drewN | apply below_drew1) | exact HB.out)) hb); have n1_ := Aside0.mk (hbox); have n2_ := Aside0.mk ((by rw [hg]; exact (below_size (by repeat (first | (with_reducible first | exact HB.out | apply below_alloc | apply pw_below_drewN | apply below_drew1) | exact HB.out))) : w.heap.size ≤ gb105)); have n3_ := Aside0.mk ((by rw [hg]; exact (below_size (by repeat (first | (with_reducible first | exact HB.out | apply below_alloc | apply pw_below_drewN | apply below_drew1) | exact HB.out))) : w.heap.size ≤ gb105)); clear HB; have HB := n0_; have BK105 := n1_; have GW105 := n2_; have GE105 := n3_; clear n0_ n1_ n2_ n3_; clear hb hbox hg; have hcz9_0 : w8.cell? ⟨gb105, 0, none⟩ = some (.int .i64 a0_0) := (blk_cell BK105.out 0).trans rfl; have hcz9_1 : w8.cell? ⟨gb105, 1, none⟩ = some (.int .i64 a0_1) := (blk_cell BK105.out 1).trans rfl; have hcz9_2 : w8.cell? ⟨gb105, 2, none⟩ = some (.slice A0_2 l0_2.length c0_2) := (blk_cell BK105.out 2).trans rfl; have hfz9_0 := blk_frozen BK105.out 0; have hfz9_1 := blk_frozen BK105.out 1; have hfz9_2 := blk_frozen BK105.out 2) | ((with_reducible refine gate_callee (f := 43) rfl ?_); refine goesL_ (some 8) rfl rfl Try.func43 (by kernel_rfl) rfl #[.slice A0_2 l0_2.length c0_2, .int .i64 a1] rfl (by (try simp only [List.map_toArray, List.map_cons, List.map_nil]); first | done | rfl | (simp only [List.length_drop, List.length_take]; rfl)) ?_; (with_reducible refine (IH _ _ l0_2 a1 t106 _ ?side1 ?side2 A3.out).mono ?_); (case side1 => repeat (first | exact (Kd.C_below HR0_2.out HB.out) | (with_reducible refine Kd.C_alloc ?_ _) | (with_reducible refine Kd.C_drewN ?_ _) | (with_reducible refine Kd.C_drew ?_))); (case side2 => exact HC0_2.out); rintro e w10 ⟨rfl, hb⟩; refine ⟨_, rfl, ?_⟩; have n0_ := Aside0.mk (blk_below (g := gb105) (o := .cells #[.int .i64 a0_0, .int .i64 a0_1, .slice A0_2 l0_2.length c0_2] 24 (0, 0)) (by (with_reducible repeat (first | refine blk_drewN ?_ _ | refine blk_drew ?_ | refine blk_alloc ?_ _)); exact BK105.out) hb); have n1_ := Aside0.mk (below_step (by repeat (first | (with_reducible first | exact HB.out | apply below_alloc | apply pw_below_drewN | apply below_drew1 | refine below_set ?_ GE105.out) | exact HB.out)) hb); clear BK105; clear HB; have BK105 := n0_; have HB := n1_; clear n0_ n1_; (try clear hb); (try clear hb2); (try clear hk); (try clear hi)))
    go_ret
    exact ⟨by first | rfl | (simp [errW_none, errW_some] <;> rfl) | (simp [*, errW_none, errW_some] <;> rfl), by repeat (first | (with_reducible first | exact HB.out | apply below_alloc | apply pw_below_drewN | apply below_drew1 | refine below_set ?_ GE105.out) | exact HB.out)⟩
set_option maxHeartbeats 8000000 in
set_option maxRecDepth 100000 in
theorem laws_szGateS.calls (k : Nat) : ∀ (A0 : Option Addr) (c0 : Nat) (l0 : List (S24)) (a1 : Int) (r : Int) (w : World) (hr0 : Kd.C k24 w A0 l0.length l0) (hc0 : l0.length ≤ c0) (h : laws_szGateS.f k l0 a1 = some r),
    Calls Try.prog 43 #[.slice A0 l0.length c0, .int .i64 a1] w fun e w' => e = .returned (.int .i64 r) ∧ Below w.heap.size w w' := by
  induction k using Nat.strongRecOn with
  | _ k ih =>
  have ihG : ∀ m, m < k → ∀ (a0_0 : Int) (a0_1 : Int) (A0_2 : Option Addr) (c0_2 : Nat) (l0_2 : List (S24)) (a1 : Int) (r : Int) (w : World) (hr0_2 : Kd.C k24 w A0_2 l0_2.length l0_2) (hc0_2 : l0_2.length ≤ c0_2) (h : laws_szGate.f m a0_0 a0_1 l0_2 a1 = some r), Calls Try.prog 12 #[.agg #[.int .i64 a0_0, .int .i64 a0_1, .slice A0_2 l0_2.length c0_2], .int .i64 a1] w fun e w' => e = .returned (.int .i64 r) ∧ Below w.heap.size w w' := by
    intro m hm
    cases m with
    | zero => intro a0_0 a0_1 A0_2 c0_2 l0_2 a1 r w hr0_2 hc0_2 h; exact absurd h (by simp [laws_szGate.f])
    | succ m => exact fun a0_0 a0_1 A0_2 c0_2 l0_2 a1 r w hr0_2 hc0_2 h => laws_szGate.calls_of m (ih m (by omega)) a0_0 a0_1 A0_2 c0_2 l0_2 a1 r w hr0_2 hc0_2 h
  intro A0 c0 l0 a1 r w hr0 hc0 h
  cases k with
  | zero => exact absurd h (by simp [laws_szGateS.f])
  | succ k =>
  simp only [laws_szGateS.f] at h
  have hu24 := Try.underlying24
  have HR0 := Aside0.mk hr0
  have HC0 := Aside0.mk hc0
  clear hr0 hc0
  have HB := Aside0.mk (Below.refl w.heap.size w)
  have H : (if (wrap64 (a1 - (l0.length : Int))) < 0 then (some (-1)) else (laws_szGateS.l0 k l0 (wrap64 (a1 - (l0.length : Int))) 0)) = some r := h
  clear h
  by_cases c3 : (wrap64 (a1 - (l0.length : Int))) < 0
  · rw [if_pos c3] at H
    have c3b0 : decide ((wrap64 (a1 - (l0.length : Int))) < 0) = true := decide_eq_true c3
    clear c3
    obtain rfl := Option.some.inj H
    go_enter Try.func43, Try.ntmps43
    go_wp2
    go_ret
    exact ⟨by first | rfl | (simp [errW_none, errW_some] <;> rfl) | (simp [*, errW_none, errW_some] <;> rfl), by repeat (first | (with_reducible first | exact HB.out | apply below_alloc | apply pw_below_drewN | apply below_drew1) | exact HB.out)⟩
  · rw [if_neg c3] at H
    have c3b0 : decide ((wrap64 (a1 - (l0.length : Int))) < 0) = false := decide_eq_false c3
    clear c3
    have H' := Aside0.mk H
    clear H
    go_enter Try.func43, Try.ntmps43
    go_wp2
    go_loopg [1, 5] k (fun kq v1 v5 w' => ∃ (x1_1 : Int) (x5_1 : Int), v1 = .int .i64 x1_1 ∧ v5 = .int .i64 x5_1 ∧ Aside0 (laws_szGateS.l0 kq l0 x1_1 x5_1 = some r) ∧ Aside0 (kq ≤ k) ∧ Aside0 (Below w.heap.size w w'))
    case atStart => exact ⟨(wrap64 (a1 - (l0.length : Int))), (0), (by first | rfl | (simp; done) | (simp [*]; done)), (by first | rfl | (simp; done) | (simp [*]; done)), H', ⟨Nat.le_refl _⟩, ⟨by repeat (first | (with_reducible first | exact HB.out | apply below_alloc | apply pw_below_drewN | apply below_drew1) | exact HB.out)⟩⟩
    case round =>
      clear H'
      try clear p2
      try clear c3
      try clear c3b0
      obtain ⟨x1_1, x5_1, rfl, rfl, HA, HK1, HB⟩ := hrel
      cases gk with
      | zero => exact absurd HA.out (by simp [laws_szGateS.l0])
      | succ k1 =>
        have H := HA.out
        clear HA
        simp only [laws_szGateS.l0] at H
        by_cases c4 : x5_1 < (l0.length : Int)
        · rw [if_pos c4] at H
          have c4b0 : decide (x5_1 < (l0.length : Int)) = true := decide_eq_true c4
          clear c4
          by_cases c5 : 0 ≤ x5_1
          · rw [if_pos c5] at H
            have c5b0 : decide (0 ≤ x5_1) = true := decide_eq_true c5
            clear c5
            replace H := Option.bind_eq_some_iff.mp H
            obtain ⟨t108, A60, H⟩ := H
            replace H : (if t108 < 0 then (some (-1)) else (laws_szGateS.l0 k1 l0 t108 (wrap64 (x5_1 + 1)))) = some r := H
            have A6 := Aside0.mk A60
            clear A60
            by_cases c7 : t108 < 0
            · rw [if_pos c7] at H
              have c7b0 : decide (t108 < 0) = true := decide_eq_true c7
              clear c7
              obtain rfl := Option.some.inj H
              have p107 : 0 ≤ (x5_1 : Int) := of_decide_eq_true (by first | (with_reducible assumption) | assumption)
              have q107 : x5_1 < (l0.length : Int) := of_decide_eq_true (by first | (with_reducible assumption) | assumption)
              obtain ⟨ad107, A107_2, c107_2, e107, hx107_0, hx107_1, hx107_2, hl107_2, hi107_2⟩ := at_T24 HR0.out x5_1 p107 q107
              cases e107
              replace hx107_0 := (HB.out.cell (World.block_lt_of_cell? w _ hx107_0)).trans hx107_0
              replace hx107_1 := (HB.out.cell (World.block_lt_of_cell? w _ hx107_1)).trans hx107_1
              replace hx107_2 := (HB.out.cell (World.block_lt_of_cell? w _ hx107_2)).trans hx107_2
              have HR107_2 := Aside0.mk hi107_2
              have HC107_2 := Aside0.mk hl107_2
              clear hi107_2 hl107_2
              replace p107 := eq_true p107
              replace q107 := eq_true q107
              go_wp2_with (first | ((with_reducible refine gate_callee (f := 12) rfl ?_); refine goesL_ (some 23) rfl rfl Try.func12 (by kernel_rfl) rfl #[.agg #[.int .i64 ((rd_T24 l0 x5_1).f0), .int .i64 ((rd_T24 l0 x5_1).f1), .slice A107_2 ((rd_T24 l0 x5_1).f2).length c107_2], .int .i64 x1_1] rfl (by (try simp only [List.map_toArray, List.map_cons, List.map_nil]); first | done | rfl | (simp only [List.length_drop, List.length_take]; rfl)) ?_; (with_reducible refine (ihG k1 (by have := HK1.out; omega) ((rd_T24 l0 x5_1).f0) ((rd_T24 l0 x5_1).f1) _ _ ((rd_T24 l0 x5_1).f2) x1_1 t108 _ ?side1 ?side2 A6.out).mono ?_); (case side1 => repeat (first | exact (Kd.C_below HR107_2.out HB.out) | (with_reducible refine Kd.C_alloc ?_ _) | (with_reducible refine Kd.C_drewN ?_ _) | (with_reducible refine Kd.C_drew ?_))); (case side2 => exact HC107_2.out); rintro e w8 ⟨rfl, hb⟩; refine ⟨_, rfl, ?_⟩; have n0_ := Aside0.mk (below_step (by repeat (first | (with_reducible first | exact HB.out | apply below_alloc | apply pw_below_drewN | apply below_drew1) | exact HB.out)) hb); clear HB; have HB := n0_; clear n0_; (try clear hb); (try clear hb2); (try clear hk); (try clear hi)))
              go_ret
              exact ⟨by first | rfl | (simp [errW_none, errW_some] <;> rfl) | (simp [*, errW_none, errW_some] <;> rfl), by repeat (first | (with_reducible first | exact HB.out | apply below_alloc | apply pw_below_drewN | apply below_drew1) | exact HB.out)⟩
            · rw [if_neg c7] at H
              have c7b0 : decide (t108 < 0) = false := decide_eq_false c7
              clear c7
              have H' := Aside0.mk H
              clear H
              have p107 : 0 ≤ (x5_1 : Int) := of_decide_eq_true (by first | (with_reducible assumption) | assumption)
              have q107 : x5_1 < (l0.length : Int) := of_decide_eq_true (by first | (with_reducible assumption) | assumption)
              obtain ⟨ad107, A107_2, c107_2, e107, hx107_0, hx107_1, hx107_2, hl107_2, hi107_2⟩ := at_T24 HR0.out x5_1 p107 q107
              cases e107
              replace hx107_0 := (HB.out.cell (World.block_lt_of_cell? w _ hx107_0)).trans hx107_0
              replace hx107_1 := (HB.out.cell (World.block_lt_of_cell? w _ hx107_1)).trans hx107_1
              replace hx107_2 := (HB.out.cell (World.block_lt_of_cell? w _ hx107_2)).trans hx107_2
              have HR107_2 := Aside0.mk hi107_2
              have HC107_2 := Aside0.mk hl107_2
              clear hi107_2 hl107_2
              replace p107 := eq_true p107
              replace q107 := eq_true q107
              go_wp2_with (first | ((with_reducible refine gate_callee (f := 12) rfl ?_); refine goesL_ (some 23) rfl rfl Try.func12 (by kernel_rfl) rfl #[.agg #[.int .i64 ((rd_T24 l0 x5_1).f0), .int .i64 ((rd_T24 l0 x5_1).f1), .slice A107_2 ((rd_T24 l0 x5_1).f2).length c107_2], .int .i64 x1_1] rfl (by (try simp only [List.map_toArray, List.map_cons, List.map_nil]); first | done | rfl | (simp only [List.length_drop, List.length_take]; rfl)) ?_; (with_reducible refine (ihG k1 (by have := HK1.out; omega) ((rd_T24 l0 x5_1).f0) ((rd_T24 l0 x5_1).f1) _ _ ((rd_T24 l0 x5_1).f2) x1_1 t108 _ ?side1 ?side2 A6.out).mono ?_); (case side1 => repeat (first | exact (Kd.C_below HR107_2.out HB.out) | (with_reducible refine Kd.C_alloc ?_ _) | (with_reducible refine Kd.C_drewN ?_ _) | (with_reducible refine Kd.C_drew ?_))); (case side2 => exact HC107_2.out); rintro e w9 ⟨rfl, hb⟩; refine ⟨_, rfl, ?_⟩; have n0_ := Aside0.mk (below_step (by repeat (first | (with_reducible first | exact HB.out | apply below_alloc | apply pw_below_drewN | apply below_drew1) | exact HB.out)) hb); clear HB; have HB := n0_; clear n0_; (try clear hb); (try clear hb2); (try clear hk); (try clear hi)))
              go_roundg k1
              case measure => have := HK1.out; omega
              case rel => exact ⟨(t108), (wrap64 (x5_1 + 1)), (by first | rfl | (simp; done) | (simp [*]; done)), (by first | rfl | (simp; done) | (simp [*]; done)), H', ⟨by have := HK1.out; omega⟩, ⟨by repeat (first | (with_reducible first | exact HB.out | apply below_alloc | apply pw_below_drewN | apply below_drew1) | exact HB.out)⟩⟩
          · rw [if_neg c5] at H
            exact absurd H (by simp)
        · rw [if_neg c4] at H
          have c4b0 : decide (x5_1 < (l0.length : Int)) = false := decide_eq_false c4
          clear c4
          obtain rfl := Option.some.inj H
          go_wp2
          go_ret
          exact ⟨by first | rfl | (simp [errW_none, errW_some] <;> rfl) | (simp [*, errW_none, errW_some] <;> rfl), by repeat (first | (with_reducible first | exact HB.out | apply below_alloc | apply pw_below_drewN | apply below_drew1) | exact HB.out)⟩
theorem laws_szGate.calls (k : Nat) (a0_0 : Int) (a0_1 : Int) (A0_2 : Option Addr) (c0_2 : Nat) (l0_2 : List (S24)) (a1 : Int) (r : Int) (w : World) (hr0_2 : Kd.C k24 w A0_2 l0_2.length l0_2) (hc0_2 : l0_2.length ≤ c0_2) (h : laws_szGate.f k a0_0 a0_1 l0_2 a1 = some r) :
    Calls Try.prog 12 #[.agg #[.int .i64 a0_0, .int .i64 a0_1, .slice A0_2 l0_2.length c0_2], .int .i64 a1] w fun e w' => e = .returned (.int .i64 r) ∧ Below w.heap.size w w' := by
  cases k with
  | zero => exact absurd h (by simp [laws_szGate.f])
  | succ k => exact laws_szGate.calls_of k (laws_szGateS.calls k) a0_0 a0_1 A0_2 c0_2 l0_2 a1 r w hr0_2 hc0_2 h

end Go.Proofs.Ytjnobnmjhpmpfaa.P

namespace Go.Proofs.Ytjnobnmjhpmpfaa.P
open Go.RowKit Go.Proofs.YtjnobnmjhpmpfaaW.PrintWords Go.Proofs.YtjnobnmjhpmpfaaW.PrintLast Go.Proofs.YtjnobnmjhpmpfaaW.PrintMore
attribute [local go_sem] max2_int min2_int max_two min_two max_three min_three max_four min_four
set_option linter.unusedVariables false
set_option linter.unusedSimpArgs false

/-! ### laws_toGateS: function 45 (by hand) -/
mutual
def laws_toGateS.l0 : Nat → List S24 → List S29 → Int → Option (List S29)
  | 0, _, _, _ => none
  | k + 1, l, out, i => if i < (l.length : Int) then (if 0 ≤ i then ((laws_toGate.f k (rd_T24 l i).f0 (rd_T24 l i).f1 (rd_T24 l i).f2).bind fun b => if i < (out.length : Int) then laws_toGateS.l0 k l (out.set i.toNat ⟨b.1, b.2.1, b.2.2⟩) (wrap64 (i + 1)) else none) else none) else some out
def laws_toGateS.f : Nat → List S24 → Option (List S29)
  | 0, _ => none
  | k + 1, l => if ((l.length : Int)).toNat ≤ 7036874417766 then laws_toGateS.l0 k l (List.replicate ((l.length : Int)).toNat z29) 0 else none
def laws_toGate.f : Nat → Int → Int → List S24 → Option (Int × Int × List S29)
  | 0, _, _, _ => none
  | k + 1, a0, a1, l => (laws_toGateS.f k l).bind fun t => some (a0, a1, t)
end
set_option maxHeartbeats 8000000 in
set_option maxRecDepth 100000 in
theorem laws_toGate.calls_of (k : Nat) (IH : ∀ (A0 : Option Addr) (c0 : Nat) (l0 : List S24) (r : List S29) (w : World) (hr0 : Kd.C k24 w A0 l0.length l0) (hc0 : l0.length ≤ c0) (h : laws_toGateS.f k l0 = some r), Calls Try.prog 45 #[.slice A0 l0.length c0] w fun e w' => ∃ v : Value, e = .returned v ∧ Kd.S kG 29 w' w.heap.size (fun _ => True) v r ∧ Below w.heap.size w w') (a0_0 : Int) (a0_1 : Int) (A0_2 : Option Addr) (c0_2 : Nat) (l0_2 : List S24) (r1 : Int) (r2 : Int) (r3 : List S29) (w : World) (hr0_2 : Kd.C k24 w A0_2 l0_2.length l0_2) (hc0_2 : l0_2.length ≤ c0_2) (h : laws_toGate.f (k + 1) a0_0 a0_1 l0_2 = some (r1, r2, r3)) :
    Calls Try.prog 14 #[.agg #[.int .i64 a0_0, .int .i64 a0_1, .slice A0_2 l0_2.length c0_2]] w fun e w' => ∃ v2_ : Value, e = .returned (.agg #[.int .i64 r1, .int .i64 r2, v2_]) ∧ Kd.S kG 29 w' w.heap.size (fun _ => True) v2_ r3 ∧ Below w.heap.size w w' := by
  have hu24 := Try.underlying24
  have hu29 := Try.underlying29
  have HR := Aside0.mk hr0_2
  have HC := Aside0.mk hc0_2
  clear hr0_2 hc0_2
  simp only [laws_toGate.f] at h
  replace h := Option.bind_eq_some_iff.mp h
  obtain ⟨t, At, H⟩ := h
  obtain ⟨rfl, rfl, rfl⟩ := (by simpa using H : a0_0 = r1 ∧ a0_1 = r2 ∧ t = r3)
  have A1 := Aside0.mk At
  clear At H
  go_enter Try.func14, Try.ntmps14
  go_wp2_with (first | (go_at_call 45; (with_reducible refine (IH _ _ l0_2 t _ ?side1 ?side2 A1.out).mono ?_); (case side1 => repeat (first | exact HR.out | (with_reducible refine Kd.C_alloc ?_ _) | (with_reducible refine Kd.C_drewN ?_ _) | (with_reducible refine Kd.C_drew ?_))); (case side2 => exact HC.out); rintro e w1 ⟨v, rfl, ho, hb⟩; have n1_ := Aside0.mk (blk_below (g := w.heap.size + 1) (o := .cells #[(.int .i64 0 : Value), (.int .i64 0 : Value), (.slice none 0 0 : Value)] 29 (0, 0)) (by repeat (first | exact blk_new_at (by simp) | (with_reducible refine blk_drewN ?_ _) | (with_reducible refine blk_drew ?_) | (with_reducible refine blk_alloc ?_ _))) hb); have n2_ := Aside0.mk (blk_below (g := w.heap.size + 2) (o := .cells #[.int .i64 a0_0, .int .i64 a0_1, (.slice none 0 0 : Value)] 29 (0, 0)) (by repeat (first | exact blk_new_at (by simp) | (with_reducible refine blk_drewN ?_ _) | (with_reducible refine blk_drew ?_) | (with_reducible refine blk_alloc ?_ _))) hb); have n3_ : Aside0 (Below w.heap.size w w1) := Aside0.mk (below_step (by repeat (first | exact Below.refl _ _ | apply below_alloc | apply pw_below_drewN | apply below_drew1)) hb); have HO := Aside0.mk (Kd.S_lower (base' := w.heap.size) (Kd.S_mono (Kd.S_bound ho) (ok' := fun k_ => w.heap.size + 3 ≤ k_) (fun k_ hk_ => by have h_ := hk_.2.1; (try simp at h_); omega)) (by simp; omega)); obtain ⟨Az, cz, ez⟩ := Kd.S_slice HO.out; subst ez; clear ho hb; have hl1 : w.heap.size + 2 < w1.heap.size := blk_lt n2_.out; have hx0 : w1.cell? ⟨w.heap.size + 1, 0, none⟩ = some ((.int .i64 0 : Value)) := (blk_cell n1_.out 0).trans rfl; have hxf0 := blk_frozen n1_.out 0; have hx1 : w1.cell? ⟨w.heap.size + 1, 1, none⟩ = some ((.int .i64 0 : Value)) := (blk_cell n1_.out 1).trans rfl; have hxf1 := blk_frozen n1_.out 1; have hx2 : w1.cell? ⟨w.heap.size + 1, 2, none⟩ = some ((.slice none 0 0 : Value)) := (blk_cell n1_.out 2).trans rfl; have hxf2 := blk_frozen n1_.out 2; have hz0 : w1.cell? ⟨w.heap.size + 2, 0, none⟩ = some (.int .i64 a0_0) := (blk_cell n2_.out 0).trans rfl; have hzf0 := blk_frozen n2_.out 0; have hz1 : w1.cell? ⟨w.heap.size + 2, 1, none⟩ = some (.int .i64 a0_1) := (blk_cell n2_.out 1).trans rfl; have hzf1 := blk_frozen n2_.out 1; have hz2 : w1.cell? ⟨w.heap.size + 2, 2, none⟩ = some ((.slice none 0 0 : Value)) := (blk_cell n2_.out 2).trans rfl; have hzf2 := blk_frozen n2_.out 2))
  (try simp only [Exit.inBlock, Exit.then])
  refine bodyPost_ret (results_cell_row rfl _ _ (w.heap.size + 1) 29 #[.int .i64 a0_0, .int .i64 a0_1, .slice Az t.length cz] (0, 0) _ rfl (blk_put (blk_put (blk_put (blk_far (p := ⟨w.heap.size + 2, 2, none⟩) n1_.out (by dsimp only; omega) _) 0 _ rfl) 1 _ rfl) 2 _ rfl) Try.underlying29 rfl (by kernel_rfl)) rfl ?_
  exact ⟨_, rfl, Kd.S_mono (Kd.S_far (Kd.S_far (Kd.S_far (Kd.S_far (HO.out) (fun k_ hk_ => by dsimp only; have h_ := hk_; omega) _) (fun k_ hk_ => by dsimp only; have h_ := hk_; omega) _) (fun k_ hk_ => by dsimp only; have h_ := hk_; omega) _) (fun k_ hk_ => by dsimp only; have h_ := hk_; omega) _) (fun _ _ => trivial), below_set (below_set (below_set (below_set n3_.out (by omega)) (by omega)) (by omega)) (by omega)⟩
set_option maxHeartbeats 8000000 in
set_option maxRecDepth 100000 in
theorem laws_toGateS.calls (k : Nat) : ∀ (A0 : Option Addr) (c0 : Nat) (l0 : List S24) (r : List S29) (w : World) (hr0 : Kd.C k24 w A0 l0.length l0) (hc0 : l0.length ≤ c0) (h : laws_toGateS.f k l0 = some r),
    Calls Try.prog 45 #[.slice A0 l0.length c0] w fun e w' => ∃ v : Value, e = .returned v ∧ Kd.S kG 29 w' w.heap.size (fun _ => True) v r ∧ Below w.heap.size w w' := by
  induction k using Nat.strongRecOn with
  | _ k ih =>
  have ihG : ∀ m, m < k → ∀ (a0_0 : Int) (a0_1 : Int) (A0_2 : Option Addr) (c0_2 : Nat) (l0_2 : List S24) (r1 : Int) (r2 : Int) (r3 : List S29) (w : World) (hr0_2 : Kd.C k24 w A0_2 l0_2.length l0_2) (hc0_2 : l0_2.length ≤ c0_2) (h : laws_toGate.f m a0_0 a0_1 l0_2 = some (r1, r2, r3)), Calls Try.prog 14 #[.agg #[.int .i64 a0_0, .int .i64 a0_1, .slice A0_2 l0_2.length c0_2]] w fun e w' => ∃ v2_ : Value, e = .returned (.agg #[.int .i64 r1, .int .i64 r2, v2_]) ∧ Kd.S kG 29 w' w.heap.size (fun _ => True) v2_ r3 ∧ Below w.heap.size w w' := by
    intro m hm
    cases m with
    | zero => intro a0_0 a0_1 A0_2 c0_2 l0_2 r1 r2 r3 w hr0_2 hc0_2 h; exact absurd h (by simp [laws_toGate.f])
    | succ m => intro a0_0 a0_1 A0_2 c0_2 l0_2 r1 r2 r3 w hr0_2 hc0_2 h; exact laws_toGate.calls_of m (ih m (by omega)) a0_0 a0_1 A0_2 c0_2 l0_2 r1 r2 r3 w hr0_2 hc0_2 h
  intro A0 c0 l0 r w hr0 hc0 h
  cases k with
  | zero => exact absurd h (by simp [laws_toGateS.f])
  | succ k =>
  simp only [laws_toGateS.f] at h
  have hu24 := Try.underlying24
  have hu29 := Try.underlying29
  have HR0 := Aside0.mk hr0
  clear hr0 hc0
  have HB := Aside0.mk (Below.refl w.heap.size w)
  clear ih
  by_cases c3 : ((l0.length : Int)).toNat ≤ 7036874417766
  · rw [if_pos c3] at h
    have HL := Aside0.mk c3
    clear c3
    have c2b0 := eq_true (show (0 : Int) ≤ (l0.length : Int) by omega)
    have c2b1 : decide (0 ≤ (l0.length : Int)) = true := decide_eq_true (by omega)
    have H' := Aside0.mk h
    clear h
    go_enter Try.func45, Try.ntmps45
    go_wp2_with (first | ((with_reducible refine gate_dst (N := 7) rfl ?_); refine Kd.S_make kG _ 29 rfl (N := 7) rfl 27 _ _ rfl (l0.length : Int) rfl rfl Try.underlying27 (.agg #[.int .i64 0, .int .i64 0, .slice none 0 0]) 40 info29 rfl (by decide) (by omega) z29 (ok := fun _ => True) (okp := fun _ => True) (kG_mkM (x := z29) (GS_nil _ _ _)) (fun _ hk => hk) trivial (by omega) (by have := HL.out; omega) (Below.refl _ _) (Nat.le_refl _) ?_; intro v316 w4 ho5 hb hg_ hnew_; clear hg_ hnew_; have n0_ := Aside0.mk (Kd.S_lower ho5 (below_size (by repeat (first | (with_reducible first | exact HB.out | apply below_alloc | apply pw_below_drewN | apply below_drew1) | exact HB.out)))); have n1_ := Aside0.mk (below_step (by repeat (first | (with_reducible first | exact HB.out | apply below_alloc | apply pw_below_drewN | apply below_drew1) | exact HB.out)) hb); clear HB; have HO317 := n0_; have HB := n1_; clear n0_ n1_; clear hb ho5))
    go_loopg [4] k (fun kq v4 w' => ∃ (x3 : List S29) (x4 : Int), v4 = .int .i64 x4 ∧ Aside0 (laws_toGateS.l0 kq l0 x3 x4 = some r) ∧ Aside0 (kq ≤ k) ∧ Aside0 (Kd.S kG 29 w' w.heap.size (fun _ => True) v316 x3) ∧ Aside0 (Below w.heap.size w w'))
    case atStart => exact ⟨_, (0), (by first | rfl | (simp; done)), H', ⟨Nat.le_refl _⟩, ⟨HO317.out⟩, ⟨HB.out⟩⟩
    case round =>
      clear H' HO317 HB
      obtain ⟨x3, x4, rfl, HA, HK, HO, HB⟩ := hrel
      cases gk with
      | zero => exact absurd HA.out (by simp [laws_toGateS.l0])
      | succ k1 =>
        have H := HA.out
        clear HA
        simp only [laws_toGateS.l0] at H
        by_cases c6 : x4 < (l0.length : Int)
        · rw [if_pos c6] at H
          have c6b0 : decide (x4 < (l0.length : Int)) = true := decide_eq_true c6
          by_cases c7 : 0 ≤ x4
          · rw [if_pos c7] at H
            have c7b0 : decide (0 ≤ x4) = true := decide_eq_true c7
            replace H := Option.bind_eq_some_iff.mp H
            obtain ⟨⟨b1, b2, b3⟩, At, H⟩ := H
            have A7 := Aside0.mk At
            clear At
            dsimp only at H
            by_cases c9 : x4 < (x3.length : Int)
            · rw [if_pos c9] at H
              have H' := Aside0.mk H
              clear H
              obtain ⟨ad, A2, c2, e318, hx0, hx1, hx2, hl2, hi2⟩ := at_T24 HR0.out x4 c7 c6
              cases e318
              replace hx0 := (HB.out.cell (World.block_lt_of_cell? w _ hx0)).trans hx0
              replace hx1 := (HB.out.cell (World.block_lt_of_cell? w _ hx1)).trans hx1
              replace hx2 := (HB.out.cell (World.block_lt_of_cell? w _ hx2)).trans hx2
              have HI := Aside0.mk hi2
              have HL2 := Aside0.mk hl2
              clear hi2 hl2
              obtain ⟨g, cg, rfl, gb, gl⟩ := (by obtain ⟨g, cg, e, h1, h2, _⟩ := Kd.S_form HO.out (by omega); exact ⟨g, cg, e, h1, h2⟩ : ∃ g cg, v316 = .slice (some ⟨g, 0, none⟩) x3.length cg ∧ w.heap.size ≤ g ∧ g < wr.heap.size)
              have hgl := Aside0.mk gl
              clear gl gb
              have p4 := c7
              have q4 := c9
              skip
              replace c7 := eq_true c7
              replace c6 := eq_true c6
              have c9b0 : decide (x4 < (x3.length : Int)) = true := decide_eq_true c9
              replace c9 := eq_true c9
              go_wp2_with (first | ((with_reducible refine gate_callee (f := 14) rfl ?_); refine goesL_ (some 20) rfl rfl Try.func14 (by kernel_rfl) rfl #[.agg #[.int .i64 (rd_T24 l0 x4).f0, .int .i64 (rd_T24 l0 x4).f1, .slice A2 (rd_T24 l0 x4).f2.length c2]] rfl (by (try simp only [List.map_toArray, List.map_cons, List.map_nil]); first | done | rfl) ?_; (with_reducible refine (ihG k1 (by have := HK.out; omega) (rd_T24 l0 x4).f0 (rd_T24 l0 x4).f1 _ _ (rd_T24 l0 x4).f2 b1 b2 b3 _ ?side1 ?side2 A7.out).mono ?_); (case side1 => exact Kd.C_below HI.out (by repeat (first | (with_reducible first | exact HB.out | apply below_alloc | apply pw_below_drewN | apply below_drew1) | exact HB.out))); (case side2 => exact HL2.out); rintro e w5 ⟨v, rfl, ho, hb⟩; refine ⟨_, rfl, ?_⟩; have q1_ : Aside0 (Kd.S kG 29 w5 w.heap.size (fun k_ => True ∧ ¬ wr.heap.size ≤ k_) (.slice (some ⟨g, 0, none⟩) x3.length cg) x3) := ⟨Kd.S_mono (Kd.S_old (by (with_reducible repeat (first | apply Kd.S_alloc | apply Kd.S_drewN | apply Kd.S_drew)); exact HO.out) hb) (fun k_ hk_ => ⟨trivial, Nat.not_le.2 hk_.2⟩)⟩; have q3_ := Aside0.mk (below_step (by repeat (first | (with_reducible first | exact HB.out | apply below_alloc | apply pw_below_drewN | apply below_drew1) | exact HB.out)) hb); have q2_ := Aside0.mk (Kd.S_lower (base' := w.heap.size) (Kd.S_mono (Kd.S_bound ho) (ok' := fun k_ => wr.heap.size ≤ k_) (fun k_ hk_ => by have h_ := hk_.2.1; (try simp at h_); omega)) (below_size (by repeat (first | (with_reducible first | exact HB.out | apply below_alloc | apply pw_below_drewN | apply below_drew1) | exact HB.out)))); clear HO HB; have HO := q1_; have HB := q3_; clear q1_ q3_; obtain ⟨Az, cz, ez⟩ := Kd.S_slice q2_.out; subst ez; clear ho hb; obtain ⟨oki, ce, hcl, _, _, _, _, hH⟩ := Kd.S_elem HO.out z29 x4 p4 q4; have HH := Aside0.mk (Kd.H_more (okg := fun k_ => wr.heap.size ≤ k_) hH (fun _ _ => trivial)); replace hcl := Aside0.mk hcl; clear hH HO) | ((with_reducible refine gate_store (t := 29) (p := 21) rfl ?_); refine Kd.H_store kG _ rfl rfl 29 _ _ rfl 29 (g := g) x4 0 x3 (⟨b1, b2, b3⟩ : S29) (.agg #[.int .i64 b1, .int .i64 b2, .slice Az b3.length cz]) [.int .i64 b1, .int .i64 b2, .slice Az b3.length cz] ce (fun _ => True) (fun k_ => oki k_ ∨ wr.heap.size ≤ k_) (fun k_ => wr.heap.size ≤ k_) rfl ?hoff rfl rfl rfl ?h1 HH.out p4 q4 ?hj ?hM (fun k_ hk_ => Or.inr hk_) HB.out ?_; (case hoff => rfl); (case h1 => simp [Value.oneCell']); (case hj => exact Nat.le_refl 3); (case hM => rw [List.drop_eq_nil_of_le (by have hcl3 : ce.length = 3 := hcl.out; simp; omega), List.append_nil]; exact kG_mkM (x := (⟨b1, b2, b3⟩ : S29)) q2_.out); intro w6 ho6 hb6 hg6; clear HH HB hg6; have HO := Aside0.mk ho6; have HB := Aside0.mk hb6; clear ho6 hb6))
              go_roundg k1
              case measure => have := HK.out; omega
              case rel => exact ⟨_, (wrap64 (x4 + 1)), (by first | rfl | (simp; done) | (simp [*]; done)), H', ⟨by have := HK.out; omega⟩, ⟨HO.out⟩, ⟨HB.out⟩⟩
            · rw [if_neg c9] at H
              exact absurd H (by simp)
          · rw [if_neg c7] at H
            exact absurd H (by simp)
        · rw [if_neg c6] at H
          have c6b0 : decide (x4 < (l0.length : Int)) = false := decide_eq_false c6
          clear c6
          obtain rfl := Option.some.inj H
          go_wp2
          go_ret
          exact ⟨_, rfl, HO.out, HB.out⟩
  · rw [if_neg c3] at h
    exact absurd h (by simp)

end Go.Proofs.Ytjnobnmjhpmpfaa.P
