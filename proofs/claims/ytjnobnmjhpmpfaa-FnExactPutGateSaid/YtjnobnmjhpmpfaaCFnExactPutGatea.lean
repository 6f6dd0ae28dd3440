/- For all arguments the program's PutGate and the reference's answer alike, the arguments stay, and the result is memory of its own. This text: part 1 of what it rests on: functions of the translation as plain Lean functions, and that the machine's calls come to their answers. -/
import Derived.ArgAppend
import Derived.Below
import Derived.BigQuiet
import Derived.DataShut
import Derived.Deep.AppendLies
import Derived.Deep.CutBlock
import Derived.Deep.DeepCutAuto
import Derived.Deep.Draws
import Derived.Deep.LoopGhost
import Derived.Deep.OwnRows
import Derived.Deep.QuietTactic
import Derived.Deep.RegionHeld3
import Derived.KernelRfl
import Derived.Laws.BitsLemmas
import Derived.Laws.BytesArg
import Derived.Laws.IdiomCopy
import Derived.Laws.MakeOwn
import Derived.Laws.OwnMore
import Derived.Laws.Rows
import Derived.Laws.Slices
import Derived.Lib.AppendStr
import Derived.Lib.ConvBytes
import Derived.Maps.AppendAt
import Derived.OrdersHeld
import Derived.OwnWalk
import Derived.RowKit
import Derived.RowKit3
import Derived.Tactics
import Derived.Test.YtjnobnmjhpmpfaaCFnExactPutGateWApartw
import Derived.Test.YtjnobnmjhpmpfaaCFnExactPutGateWArrw
import Derived.Test.YtjnobnmjhpmpfaaCFnExactPutGateWAtw
import Derived.Test.YtjnobnmjhpmpfaaCFnExactPutGateWEqStructw
import Derived.Test.YtjnobnmjhpmpfaaCFnExactPutGateWFootNew
import Derived.Test.YtjnobnmjhpmpfaaCFnExactPutGateWFootw
import Derived.Test.YtjnobnmjhpmpfaaCFnExactPutGateWFourw
import Derived.Test.YtjnobnmjhpmpfaaCFnExactPutGateWGuardw
import Derived.Test.YtjnobnmjhpmpfaaCFnExactPutGateWInvWordsw
import Derived.Test.YtjnobnmjhpmpfaaCFnExactPutGateWInvw
import Derived.Test.YtjnobnmjhpmpfaaCFnExactPutGateWKeptw
import Derived.Test.YtjnobnmjhpmpfaaCFnExactPutGateWLastw
import Derived.Test.YtjnobnmjhpmpfaaCFnExactPutGateWMorew
import Derived.Test.YtjnobnmjhpmpfaaCFnExactPutGateWNEvw
import Derived.Test.YtjnobnmjhpmpfaaCFnExactPutGateWNw
import Derived.Test.YtjnobnmjhpmpfaaCFnExactPutGateWQPutw
import Derived.Test.YtjnobnmjhpmpfaaCFnExactPutGateWRepsOnew
import Derived.Test.YtjnobnmjhpmpfaaCFnExactPutGateWSharew
import Derived.Test.YtjnobnmjhpmpfaaCFnExactPutGateWTabw
import Derived.Test.YtjnobnmjhpmpfaaCFnExactPutGateWWordsw
import Derived.Test.YtjnobnmjhpmpfaaCFnExactPutGateWZerosw
import Derived.Test.YtjnobnmjhpmpfaaProg
import Derived.WalkKit
import Derived.WideLaws
namespace Go.Proofs.Ytjnobnmjhpmpfaa.P
open Go.RowKit Go.Proofs.YtjnobnmjhpmpfaaW.PrintWords Go.Proofs.YtjnobnmjhpmpfaaW.PrintLast Go.Proofs.YtjnobnmjhpmpfaaW.PrintMore
attribute [local go_sem] max2_int min2_int max_two min_two max_three min_three max_four min_four
set_option linter.unusedVariables false
set_option linter.unusedSimpArgs false

def errW : Option Int → Value
  | none => .nilIface
  | some c => .iface 0 (.int .i64 c)
theorem errW_none : errW none = .nilIface := rfl
theorem errW_some (c : Int) : errW (some c) = .iface 0 (.int .i64 c) := rfl

theorem info29 : (Try.prog.info? 29).map (fun i => (i.zero, i.size, i.bytes)) = some (some (.agg #[(.int .i64 0), (.int .i64 0), (.slice none 0 0)]), 3, 40) := by kernel_rfl
/-! #### struct type 24, nested in itself -/
structure S24 where
  f0 : Int
  f1 : Int
  f2 : (List S24)
def z24 : S24 := ⟨(0 : Int), (0 : Int), ([] : List S24)⟩
def F24 (d : Kd S24) : Kd S24 := Kd.iso (Kd.pair (Kd.int .i64) (Kd.pair (Kd.int .i64) (Kd.slice 24 d))) (fun x : S24 => (x.f0, x.f1, x.f2))
theorem mono24 : Kd.Mono F24 := Kd.mono_iso _ (Kd.mono_pair (Kd.mono_const _) (Kd.mono_pair (Kd.mono_const _) (Kd.mono_slice 24 Kd.mono_id)))
theorem sub24 : Kd.Sub F24 [24] := Kd.sub_iso _ (Kd.sub_pair (Kd.sub_const _ (by decide)) (Kd.sub_pair (Kd.sub_const _ (by decide)) (Kd.sub_slice 24 (by decide) Kd.sub_id)))
theorem sz24 : ∀ n, (Kd.upto F24 3 [24] n).sz = 3 := Kd.upto_sz (fun _ => rfl)
def k24 : Kd S24 := Kd.fix F24 3 [24] sz24 (Kd.upto_E sub24)
theorem k24_open {w : World} {x : S24} {cs : List Value} (h : k24.K w x cs) : ∃ A2 c2, cs = [.int .i64 x.f0, .int .i64 x.f1, .slice A2 x.f2.length c2] ∧ x.f2.length ≤ c2 ∧ k24.C w A2 x.f2.length x.f2 := by
  obtain ⟨n, h⟩ := h
  cases n with
  | zero => exact h.elim
  | succ n =>
    obtain ⟨_, _, rfl, rfl, ⟨_, _, rfl, rfl, ⟨A2, c2, rfl, l2, g2⟩⟩⟩ := h
    exact ⟨A2, c2, rfl, l2, Kd.fix_C g2⟩
theorem k24_mk (w : World) (x : S24) {A2 : Option Addr} {c2 : Nat} (l2 : x.f2.length ≤ c2) (g2 : k24.C w A2 x.f2.length x.f2) : k24.K w x [.int .i64 x.f0, .int .i64 x.f1, .slice A2 x.f2.length c2] := by
  obtain ⟨n2, q2⟩ := Kd.fix_C_back mono24 g2
  have r2 := Kd.upto_C_le mono24 sz24 (show n2 ≤ n2 by omega) q2
  exact ⟨n2 + 1, ⟨[.int .i64 x.f0], [.int .i64 x.f1, .slice A2 x.f2.length c2], rfl, rfl, ⟨[.int .i64 x.f1], [.slice A2 x.f2.length c2], rfl, rfl, ⟨A2, c2, rfl, l2, r2⟩⟩⟩⟩
def rd_T24 (xs : List S24) (i : Int) : S24 := xs.getD i.toNat z24
theorem at_T24 {w : World} {A : Option Addr} {n : Nat} {xs : List S24} (h : Kd.C k24 w A n xs) (i : Int) (h0 : 0 ≤ i) (h1 : i < n) : ∃ ad A2 c2, A = some ad ∧ w.cell? (ad.add (i.toNat * 3)) = some (.int .i64 (rd_T24 xs i).f0) ∧ w.cell? ⟨(ad.add (i.toNat * 3)).block, (ad.add (i.toNat * 3)).off + 1, none⟩ = some (.int .i64 (rd_T24 xs i).f1) ∧ w.cell? ⟨(ad.add (i.toNat * 3)).block, (ad.add (i.toNat * 3)).off + 2, none⟩ = some (.slice A2 (rd_T24 xs i).f2.length c2) ∧ (rd_T24 xs i).f2.length ≤ c2 ∧ k24.C w A2 (rd_T24 xs i).f2.length (rd_T24 xs i).f2 := by
  obtain ⟨ad, c, e, _, hK, hc0⟩ := Kd.C_get h z24 i h0 h1
  have hc : ∀ j u, c[j]? = some u → w.cell? (ad.add (i.toNat * 3 + j)) = some u := hc0
  obtain ⟨A2, c2, rfl, l2, g2⟩ := k24_open hK
  exact ⟨ad, A2, c2, e, hc 0 _ rfl, by rw [← add_field _ _ 1 (by omega)]; exact hc 1 _ rfl, by rw [← add_field _ _ 2 (by omega)]; exact hc 2 _ rfl, l2, g2⟩

/-! #### struct type 29, nested in itself -/
structure S29 where
  f0 : Int
  f1 : Int
  f2 : (List S29)
def z29 : S29 := ⟨(0 : Int), (0 : Int), ([] : List S29)⟩
def F29 (d : Kd S29) : Kd S29 := Kd.iso (Kd.pair (Kd.int .i64) (Kd.pair (Kd.int .i64) (Kd.slice 29 d))) (fun x : S29 => (x.f0, x.f1, x.f2))
theorem mono29 : Kd.Mono F29 := Kd.mono_iso _ (Kd.mono_pair (Kd.mono_const _) (Kd.mono_pair (Kd.mono_const _) (Kd.mono_slice 29 Kd.mono_id)))
theorem sub29 : Kd.Sub F29 [29] := Kd.sub_iso _ (Kd.sub_pair (Kd.sub_const _ (by decide)) (Kd.sub_pair (Kd.sub_const _ (by decide)) (Kd.sub_slice 29 (by decide) Kd.sub_id)))
theorem sz29 : ∀ n, (Kd.upto F29 3 [29] n).sz = 3 := Kd.upto_sz (fun _ => rfl)
def k29 : Kd S29 := Kd.fix F29 3 [29] sz29 (Kd.upto_E sub29)
theorem k29_open {w : World} {x : S29} {cs : List Value} (h : k29.K w x cs) : ∃ A2 c2, cs = [.int .i64 x.f0, .int .i64 x.f1, .slice A2 x.f2.length c2] ∧ x.f2.length ≤ c2 ∧ k29.C w A2 x.f2.length x.f2 := by
  obtain ⟨n, h⟩ := h
  cases n with
  | zero => exact h.elim
  | succ n =>
    obtain ⟨_, _, rfl, rfl, ⟨_, _, rfl, rfl, ⟨A2, c2, rfl, l2, g2⟩⟩⟩ := h
    exact ⟨A2, c2, rfl, l2, Kd.fix_C g2⟩
theorem k29_mk (w : World) (x : S29) {A2 : Option Addr} {c2 : Nat} (l2 : x.f2.length ≤ c2) (g2 : k29.C w A2 x.f2.length x.f2) : k29.K w x [.int .i64 x.f0, .int .i64 x.f1, .slice A2 x.f2.length c2] := by
  obtain ⟨n2, q2⟩ := Kd.fix_C_back mono29 g2
  have r2 := Kd.upto_C_le mono29 sz29 (show n2 ≤ n2 by omega) q2
  exact ⟨n2 + 1, ⟨[.int .i64 x.f0], [.int .i64 x.f1, .slice A2 x.f2.length c2], rfl, rfl, ⟨[.int .i64 x.f1], [.slice A2 x.f2.length c2], rfl, rfl, ⟨A2, c2, rfl, l2, r2⟩⟩⟩⟩
def rd_T29 (xs : List S29) (i : Int) : S29 := xs.getD i.toNat z29
theorem at_T29 {w : World} {A : Option Addr} {n : Nat} {xs : List S29} (h : Kd.C k29 w A n xs) (i : Int) (h0 : 0 ≤ i) (h1 : i < n) : ∃ ad A2 c2, A = some ad ∧ w.cell? (ad.add (i.toNat * 3)) = some (.int .i64 (rd_T29 xs i).f0) ∧ w.cell? ⟨(ad.add (i.toNat * 3)).block, (ad.add (i.toNat * 3)).off + 1, none⟩ = some (.int .i64 (rd_T29 xs i).f1) ∧ w.cell? ⟨(ad.add (i.toNat * 3)).block, (ad.add (i.toNat * 3)).off + 2, none⟩ = some (.slice A2 (rd_T29 xs i).f2.length c2) ∧ (rd_T29 xs i).f2.length ≤ c2 ∧ k29.C w A2 (rd_T29 xs i).f2.length (rd_T29 xs i).f2 := by
  obtain ⟨ad, c, e, _, hK, hc0⟩ := Kd.C_get h z29 i h0 h1
  have hc : ∀ j u, c[j]? = some u → w.cell? (ad.add (i.toNat * 3 + j)) = some u := hc0
  obtain ⟨A2, c2, rfl, l2, g2⟩ := k29_open hK
  exact ⟨ad, A2, c2, e, hc 0 _ rfl, by rw [← add_field _ _ 1 (by omega)]; exact hc 1 _ rfl, by rw [← add_field _ _ 2 (by omega)]; exact hc 2 _ rfl, l2, g2⟩

/-! #### struct type 53 -/
structure S53 where
  f0 : Int
  f1 : (List (List Int))
/-! #### struct type 50 -/
structure S50 where
  f0 : Int
  f1 : (List (List Int))
end Go.Proofs.Ytjnobnmjhpmpfaa.P

namespace Go.Proofs.Ytjnobnmjhpmpfaa.P
open Go.RowKit Go.Proofs.YtjnobnmjhpmpfaaW.PrintWords Go.Proofs.YtjnobnmjhpmpfaaW.PrintLast Go.Proofs.YtjnobnmjhpmpfaaW.PrintMore
attribute [local go_sem] max2_int min2_int max_two min_two max_three min_three max_four min_four
set_option linter.unusedVariables false
set_option linter.unusedSimpArgs false

/-- A matrix's rows, written: v the row of rows, vs its cells (each row's value); each row lies in a block of its own, all of them from lo on, below hi. -/
structure Mx (W : World) (base lo hi : Nat) (v : Value) (vs : List Value) (rows : List (List Int)) : Prop where
  own : W.ownsRow base 39 1 v rows.length vs
  row : ∀ (i : Nat) (u : Value) (r : List Int), vs[i]? = some u → rows[i]? = some r → Kd.R (Kd.int .i64) 2 W base (fun k => some k = u.ownBlock ∧ lo ≤ k ∧ k < hi) u r
  apart : ∀ (i j : Nat) (u u' : Value) (k : Nat), vs[i]? = some u → vs[j]? = some u' → u.ownBlock = some k → u'.ownBlock = some k → i = j
  outer : ∀ k, v.ownBlock = some k → lo ≤ k ∧ k < hi
namespace Mx
section
variable {W W1 : World} {base lo hi g n cap : Nat} {v u : Value} {vs : List Value} {rows : List (List Int)} {r r' : List Int}
theorem len (h : Mx W base lo hi v vs rows) : vs.length = rows.length := by have := h.own.1; omega
theorem step (h : Mx W base lo hi v vs rows) (hm : ∀ k, lo ≤ k → k < hi → k < W.heap.size → W1.heap[k]? = W.heap[k]?) : Mx W1 base lo hi v vs rows :=
  ⟨own_move h.own (fun k hk => hm k (h.outer k hk).1 (h.outer k hk).2 (own_lt h.own k hk)), fun i u r hu hr => Kd.R_step (h.row i u r hu hr) (fun k hk hlt => hm k hk.2.1 hk.2.2 hlt), h.apart, h.outer⟩
theorem below (h : Mx W base lo hi v vs rows) (hb : Below W.heap.size W W1) : Mx W1 base lo hi v vs rows := h.step (fun k _ _ hlt => hb.block k hlt)
theorem alloc (h : Mx W base lo hi v vs rows) (o : Obj) : Mx (W.alloc o) base lo hi v vs rows := h.below (below_alloc (Below.refl _ _) o)
theorem drew (h : Mx W base lo hi v vs rows) : Mx W.drew base lo hi v vs rows := h.below (below_drew (Below.refl _ _))
theorem drewN (h : Mx W base lo hi v vs rows) (m : Nat) : Mx (W.drewN m) base lo hi v vs rows := h.below (pw_below_drewN (Below.refl _ _) m)
theorem kept {S : Nat → Prop} (h : Mx W base lo hi v vs rows) (hk : Kept W W1 S) (hS : ∀ k, lo ≤ k → k < hi → ¬ S k) : Mx W1 base lo hi v vs rows := h.step (fun k h1 h2 hlt => hk.2 k hlt (hS k h1 h2))
theorem grown {b : Nat} (h : Mx W base lo hi v vs rows) (hg : W.grownBy W1 (some b)) (hp : b < lo ∨ hi ≤ b) : Mx W1 base lo hi v vs rows := h.step (fun k h1 h2 hlt => hg.block k hlt (fun e => by injection e with e; omega))
theorem grown' {w : Value} (h : Mx W base lo hi v vs rows) (hg : W.grownBy W1 w.ownBlock) (hp : ∀ b, w.ownBlock = some b → b < lo ∨ hi ≤ b) : Mx W1 base lo hi v vs rows := h.step (fun k h1 h2 hlt => hg.block k hlt (fun e => by have := hp k e.symm; omega))
theorem form (h : Mx W base lo hi v vs rows) (hp : 0 < rows.length) : ∃ g cap, v = .slice (some ⟨g, 0, none⟩) rows.length cap ∧ lo ≤ g ∧ g < hi ∧ base ≤ g ∧ g < W.heap.size := by
  obtain ⟨g, cap, he, hb, hl⟩ := h.own.form hp
  subst he
  have := h.outer g (by simp [Value.ownBlock])
  exact ⟨g, cap, rfl, this.1, this.2, hb, hl⟩
theorem slice (h : Mx W base lo hi v vs rows) : ∃ A c, v = .slice A rows.length c ∧ rows.length ≤ c := by
  rcases h.own.2 with ⟨rfl, hn⟩ | ⟨g, c, cur, rfl, _, _, hc, _⟩
  · exact ⟨none, 0, by rw [hn], by omega⟩
  · exact ⟨_, c, rfl, hc⟩
theorem count {A : Option Addr} (h : Mx W base lo hi (.slice A n cap) vs rows) : n = rows.length ∧ n ≤ cap := by
  obtain ⟨A', c, e, hc⟩ := h.slice
  injection e with _ h2 h3
  exact ⟨h2, by omega⟩
theorem cell (h : Mx W base lo hi (.slice (some ⟨g, 0, none⟩) n cap) vs rows) {i : Nat} (hu : vs[i]? = some u) : W.cell? ⟨g, i, none⟩ = some u ∧ W.frozen? ⟨g, i, none⟩ = false := by
  have hc := h.own.cells (g := g) (by simp [Value.ownBlock]) i u hu
  rw [add_plain] at hc
  refine ⟨hc, ?_⟩
  obtain ⟨cells, hb⟩ := own_typed h.own g (by simp [Value.ownBlock])
  exact blk_frozen hb i
/-- A row has been written, nothing else. -/
theorem put {P : Nat → Prop} (h : Mx W base lo hi v vs rows) {i : Nat} (hu : vs[i]? = some u) (hr : rows[i]? = some r) (hR : Kd.R (Kd.int .i64) 2 W1 base P u r') (hk : Kept W W1 (fun k => some k = u.ownBlock ∧ lo ≤ k ∧ k < hi)) : Mx W1 base lo hi v vs (rows.set i r') := by
  have hl := h.len
  have ho := h.row i u r hu hr
  refine ⟨?_, fun j u' q hu' hq => ?_, h.apart, h.outer⟩
  · rw [List.length_set]
    refine own_move h.own (fun k hk' => hk.2 k (own_lt h.own k hk') (fun h2 => ?_))
    obtain ⟨c1, e1⟩ := own_typed h.own k hk'
    obtain ⟨_, ht⟩ := Kd.R_own ho
    obtain ⟨c2, e2⟩ := own_typed ht k h2.1.symm
    rw [e1] at e2
    injection e2 with e2
    injection e2 with _ e2
    exact absurd e2 (by decide)
  · by_cases hij : j = i
    · subst hij
      rw [hu] at hu'
      obtain rfl := Option.some.inj hu'
      rw [List.getElem?_set_self (List.getElem?_eq_some_iff.1 hr).1] at hq
      obtain rfl := Option.some.inj hq
      refine Kd.R_mono (Kd.R_tight rfl hR) (fun k hk' => ⟨hk', ?_⟩)
      exact (ho.1 k hk'.symm).2
    · rw [List.getElem?_set_ne (Ne.symm hij)] at hq
      refine Kd.R_step (h.row j u' q hu' hq) (fun k hk' hlt => hk.2 k hlt (fun h2 => hij ?_))
      exact h.apart j i u' u k hu' hu hk'.1.symm h2.1.symm
theorem take {A : Option Addr} (h : Mx W base lo hi (.slice A n cap) vs rows) {m : Nat} (hm : m ≤ rows.length) : Mx W base lo hi (.slice A m cap) (vs.take m) (rows.take m) := by
  obtain rfl := h.count.1
  refine ⟨?_, fun i u r hu hr => ?_, fun i j u u' k hu hu' => ?_, fun k hk => h.outer k ?_⟩
  · have := own_take h.own hm
    rw [Nat.mul_one] at this
    rw [List.length_take, Nat.min_eq_left hm]
    exact this
  · rw [List.getElem?_take] at hu hr
    split at hu
    · rename_i hi'
      rw [if_pos hi'] at hr
      exact h.row i u r hu hr
    · cases hu
  · rw [List.getElem?_take] at hu hu'
    split at hu
    · split at hu'
      · exact h.apart i j u u' k hu hu'
      · cases hu'
    · cases hu
  · cases A with
    | none => simp [Value.ownBlock] at hk
    | some a => simpa [Value.ownBlock] using hk
end
end Mx
/-- What a walk over a matrix that the call made knows of the world: its rows in [lo, hi), other blocks as they are told, the elder world below. -/
structure Mw (w W : World) (lo hi top : Nat) (bx : List (Nat × Obj)) (v : Value) (vs : List Value) (rows : List (List Int)) : Prop where
  mx : Mx W w.heap.size lo hi v vs rows
  bx : ∀ b, b ∈ bx → W.heap[b.1]? = some b.2 ∧ (b.1 < lo ∨ hi ≤ b.1) ∧ b.1 < top
  be : Below w.heap.size w W
  l0 : w.heap.size ≤ lo
  h0 : hi ≤ top
  t0 : top ≤ W.heap.size
namespace Mw
section
variable {w W W1 : World} {lo hi top g n cap : Nat} {bx : List (Nat × Obj)} {v u : Value} {vs : List Value} {rows : List (List Int)} {r r' : List Int}
theorem below (h : Mw w W lo hi top bx v vs rows) (hb : Below W.heap.size W W1) : Mw w W1 lo hi top bx v vs rows :=
  ⟨h.mx.below hb, fun b hm => ⟨blk_below (h.bx b hm).1 hb, (h.bx b hm).2⟩, below_step h.be hb, h.l0, h.h0, Nat.le_trans h.t0 hb.size⟩
theorem drew (h : Mw w W lo hi top bx v vs rows) : Mw w W.drew lo hi top bx v vs rows := h.below (below_drew (Below.refl _ _))
theorem drewN (h : Mw w W lo hi top bx v vs rows) (m : Nat) : Mw w (W.drewN m) lo hi top bx v vs rows := h.below (pw_below_drewN (Below.refl _ _) m)
theorem alloc (h : Mw w W lo hi top bx v vs rows) (o : Obj) : Mw w (W.alloc o) lo hi top bx v vs rows := h.below (below_alloc (Below.refl _ _) o)
/-- A row has been written. -/
theorem put {P : Nat → Prop} (h : Mw w W lo hi top bx v vs rows) {i : Nat} (hu : vs[i]? = some u) (hr : rows[i]? = some r) (hR : Kd.R (Kd.int .i64) 2 W1 w.heap.size P u r') (hk : Kept W W1 (fun k => some k = u.ownBlock ∧ lo ≤ k ∧ k < hi)) (hB : Below w.heap.size w W1) : Mw w W1 lo hi top bx v vs (rows.set i r') :=
  ⟨h.mx.put hu hr hR hk, fun b hm => ⟨blk_kept (h.bx b hm).1 hk (fun hs => by have := (h.bx b hm).2.1; omega), (h.bx b hm).2⟩, hB, h.l0, h.h0, Nat.le_trans h.t0 hk.1⟩
/-- A row beyond all that is told has grown. -/
theorem grown {w1 : Value} (h : Mw w W lo hi top bx v vs rows) (hg : W.grownBy W1 w1.ownBlock) (hp : ∀ b, w1.ownBlock = some b → top ≤ b) (hB : Below w.heap.size w W1) : Mw w W1 lo hi top bx v vs rows :=
  ⟨h.mx.grown' hg (fun b hb => by have := hp b hb; have := h.h0; omega), fun b hm => ⟨blk_grown (h.bx b hm).1 hg (fun e => by have := hp b.1 e.symm; have := (h.bx b hm).2.2; omega), (h.bx b hm).2⟩, hB, h.l0, h.h0, Nat.le_trans h.t0 hg.size⟩
end
end Mw
end Go.Proofs.Ytjnobnmjhpmpfaa.P

namespace Go.Proofs.Ytjnobnmjhpmpfaa.P
open Go.RowKit Go.Proofs.YtjnobnmjhpmpfaaW.PrintWords Go.Proofs.YtjnobnmjhpmpfaaW.PrintLast Go.Proofs.YtjnobnmjhpmpfaaW.PrintMore
attribute [local go_sem] max2_int min2_int max_two min_two max_three min_three max_four min_four
set_option linter.unusedVariables false
set_option linter.unusedSimpArgs false

/-- Gates whose kids' rows lie apart, at every depth. -/
def sliceS {α : Type} (e : Nat) (d : Kd α) : Kd (List α) where
  sz := 1
  E := e :: d.E
  K := (Kd.slice e d).K
  M := fun w base ok xs cs => ∃ v, cs = [v] ∧ Kd.S d e w base ok v xs
  K_len := (Kd.slice e d).K_len
  K_one := (Kd.slice e d).K_one
  K_below := (Kd.slice e d).K_below
  K_of_M := by
    rintro w base ok x cs ⟨v, rfl, h⟩
    exact (Kd.slice e d).K_of_M ⟨v, rfl, Kd.S_R h⟩
  M_mono := by
    rintro w base ok ok' x cs hok ⟨v, rfl, h⟩
    exact ⟨v, rfl, Kd.S_mono h hok⟩
  M_bound := by
    rintro w base ok x cs ⟨v, rfl, h⟩
    exact ⟨v, rfl, Kd.S_bound h⟩
  M_move := by
    rintro w w1 base ok x cs hm ⟨v, rfl, h⟩
    exact ⟨v, rfl, Kd.S_move h hm⟩
  M_lower := by
    rintro w base base' ok x cs hb ⟨v, rfl, h⟩
    exact ⟨v, rfl, Kd.S_lower h hb⟩
theorem gS_imp {α : Type} {d d' : Kd α} (hs : d.sz = d'.sz) (h : ∀ w base ok x cs, d.M w base ok x cs → d'.M w base ok x cs) {e : Nat} {w : World} {base : Nat} {ok : Nat → Prop} {v : Value} {xs : List α} (hr : Kd.S d e w base ok v xs) : Kd.S d' e w base ok v xs := by
  obtain ⟨f, hr⟩ := hr
  exact ⟨f, Kd.R_imp (d := Kd.tag f d) (d' := Kd.tag f d') hs (fun w base ok x cs hp => h _ _ _ _ _ hp) hr⟩
theorem mono_sliceS {α β : Type} (e : Nat) {G : Kd α → Kd β} (hG : Kd.Mono G) : Kd.Mono (fun d => sliceS e (G d)) := by
  refine ⟨fun _ _ _ => rfl, ?_, ?_⟩
  · rintro d d' hs h w x cs ⟨A, c, rfl, hl, hr⟩
    exact ⟨A, c, rfl, hl, Kd.C_imp (hG.sz d d' hs) (hG.K d d' hs h) hr⟩
  · rintro d d' hs h w base ok x cs ⟨v, rfl, hr⟩
    exact ⟨v, rfl, gS_imp (hG.sz d d' hs) (hG.M d d' hs h) hr⟩
theorem sub_sliceS {α β : Type} {E : List Nat} (e : Nat) {G : Kd α → Kd β} (he : e ∈ E) (hG : Kd.Sub G E) : Kd.Sub (fun d => sliceS e (G d)) E := fun d h q hq => by
  rcases List.mem_cons.1 hq with rfl | hq
  · exact he
  · exact hG d h q hq
def FG (d : Kd S29) : Kd S29 := Kd.iso (Kd.pair (Kd.int .i64) (Kd.pair (Kd.int .i64) (sliceS 29 d))) (fun x : S29 => (x.f0, x.f1, x.f2))
theorem monoFG : Kd.Mono FG := Kd.mono_iso _ (Kd.mono_pair (Kd.mono_const _) (Kd.mono_pair (Kd.mono_const _) (mono_sliceS 29 Kd.mono_id)))
theorem subFG : Kd.Sub FG [29] := Kd.sub_iso _ (Kd.sub_pair (Kd.sub_const _ (by decide)) (Kd.sub_pair (Kd.sub_const _ (by decide)) (sub_sliceS 29 (by decide) Kd.sub_id)))
theorem szFG : ∀ n, (Kd.upto FG 3 [29] n).sz = 3 := Kd.upto_sz (fun _ => rfl)
def kG : Kd S29 := Kd.fix FG 3 [29] szFG (Kd.upto_E subFG)
theorem kG_K : ∀ n {w : World} {x : S29} {cs : List Value}, (Kd.upto FG 3 [29] n).K w x cs → (Kd.upto F29 3 [29] n).K w x cs
  | 0, _, _, _, h => h.elim
  | n + 1, w, x, cs, h => by
    obtain ⟨c0, c1, rfl, h0, c2, c3, rfl, h1, A, c, rfl, hl, hr⟩ := h
    exact ⟨c0, _, rfl, h0, c2, _, rfl, h1, A, c, rfl, hl, Kd.C_imp (d := Kd.upto FG 3 [29] n) (d' := Kd.upto F29 3 [29] n) (by rw [szFG n, sz29 n]) (fun _ _ _ hp => kG_K n hp) hr⟩
theorem kG_C {w : World} {A : Option Addr} {n : Nat} {xs : List S29} (h : Kd.C kG w A n xs) : Kd.C k29 w A n xs :=
  Kd.C_imp (d := kG) (d' := k29) rfl (fun w x cs ⟨n, hp⟩ => (⟨n, kG_K n hp⟩ : ∃ n, (Kd.upto F29 3 [29] n).K w x cs)) h
/-- Gates of one's own: a row of elements, each with rows of its own. -/
def GS (w : World) (base : Nat) (ok : Nat → Prop) (v : Value) (xs : List S29) : Prop := Kd.S kG 29 w base ok v xs
theorem fixG {n : Nat} {w : World} {base : Nat} {ok : Nat → Prop} {v : Value} {xs : List S29} (h : Kd.S (Kd.upto FG 3 [29] n) 29 w base ok v xs) : Kd.S kG 29 w base ok v xs :=
  gS_imp (d' := kG) (szFG n) (fun w base ok x cs hp => (⟨n, hp⟩ : ∃ n, (Kd.upto FG 3 [29] n).M w base ok x cs)) h
theorem fixG_back {w : World} {base : Nat} {ok : Nat → Prop} {v : Value} {xs : List S29} (h : Kd.S kG 29 w base ok v xs) : ∃ n, Kd.S (Kd.upto FG 3 [29] n) 29 w base ok v xs := by
  obtain ⟨f, h0, inner, ho, hr⟩ := h
  obtain ⟨N, hN⟩ := Kd.reps_bounded (R := fun n (p : S29 × Nat) c => (Kd.upto FG 3 [29] n).M w base (fun k => (ok k ∧ some k ≠ v.ownBlock) ∧ f k = p.2) p.1 c) (fun n m p c hnm hp => Kd.upto_M_le monoFG szFG hnm hp) hr
  refine ⟨N, f, h0, inner, ?_, ?_⟩
  · show w.ownsRow base 29 (Kd.upto FG 3 [29] N).sz v xs.zipIdx.length inner
    rw [szFG N]
    exact ho
  · show Reps _ (Kd.upto FG 3 [29] N).sz xs.zipIdx inner
    rw [szFG N]
    exact hN
theorem kG_openM {w : World} {base : Nat} {ok : Nat → Prop} {x : S29} {cs : List Value} (h : kG.M w base ok x cs) : ∃ v, cs = [.int .i64 x.f0, .int .i64 x.f1, v] ∧ GS w base ok v x.f2 := by
  obtain ⟨n, h⟩ := h
  cases n with
  | zero => exact h.elim
  | succ n =>
    obtain ⟨c0, c1, rfl, rfl, c2, c3, rfl, rfl, v, rfl, hr⟩ := h
    exact ⟨v, rfl, fixG hr⟩
theorem kG_mkM {w : World} {base : Nat} {ok : Nat → Prop} {x : S29} {v : Value} (h : GS w base ok v x.f2) : kG.M w base ok x [.int .i64 x.f0, .int .i64 x.f1, v] := by
  obtain ⟨n, hr⟩ := fixG_back h
  exact ⟨n + 1, [.int .i64 x.f0], [.int .i64 x.f1, v], rfl, rfl, [.int .i64 x.f1], [v], rfl, rfl, v, rfl, hr⟩
theorem GS_nil (w : World) (base : Nat) (ok : Nat → Prop) : GS w base ok (.slice none 0 0) [] := Kd.S_nil _ _ _ _ _
section
variable {e : Nat} {w w1 W W2 : World} {base base' : Nat} {ok ok' : Nat → Prop} {v : Value} {xs : List S29}
theorem Kd.G_lower (h : Kd.S kG e w base ok v xs) (hb : base' ≤ base) : Kd.S kG e w base' ok v xs := Kd.S_lower h hb
theorem Kd.G_mono (h : Kd.S kG e w base ok v xs) (hok : ∀ k, ok k → ok' k) : Kd.S kG e w base ok' v xs := Kd.S_mono h hok
theorem Kd.G_bound (h : Kd.S kG e w base ok v xs) : Kd.S kG e w base (fun k => ok k ∧ base ≤ k ∧ k < w.heap.size ∧ ∃ q, q ∈ e :: kG.E ∧ ∃ cells, w.heap[k]? = some (.cells cells q (0, 0))) v xs := Kd.S_bound h
theorem Kd.G_alloc (h : Kd.S kG e w base ok v xs) (o : Obj) : Kd.S kG e (w.alloc o) base ok v xs := Kd.S_alloc h o
theorem Kd.G_drew (h : Kd.S kG e w base ok v xs) : Kd.S kG e w.drew base ok v xs := Kd.S_drew h
theorem Kd.G_drewN (h : Kd.S kG e w base ok v xs) (m : Nat) : Kd.S kG e (w.drewN m) base ok v xs := Kd.S_drewN h m
theorem Kd.G_below (h : Kd.S kG e w base ok v xs) (hb : Below w.heap.size w w1) : Kd.S kG e w1 base ok v xs := Kd.S_below h hb
theorem Kd.G_kept {S : Nat → Prop} (h : Kd.S kG e W base ok v xs) (hk : Kept W W2 S) (hne : ∀ k, ok k → ¬ S k) : Kd.S kG e W2 base ok v xs := Kd.S_kept h hk hne
theorem Kd.G_far (h : Kd.S kG e w base ok v xs) {p : Addr} (hok : ∀ k, ok k → k ≠ p.block) (u : Value) : Kd.S kG e (w.setCell p u) base ok v xs := Kd.S_far h hok u
theorem Kd.G_slice (h : Kd.S kG e w base ok v xs) : ∃ A c, v = .slice A xs.length c := Kd.S_slice h
theorem Kd.G_reads' {A : Option Addr} {n c : Nat} (h : Kd.S kG e w base ok (.slice A n c) xs) : n = xs.length ∧ n ≤ c ∧ Kd.C k29 w A xs.length xs := by
  obtain ⟨h1, h2, h3⟩ := Kd.S_reads' h
  exact ⟨h1, h2, kG_C h3⟩
theorem G_apart {g : Nat} {o : Obj} (hz : W.heap[g]? = some o) (hS : Kd.S kG e w1 W.heap.size ok v xs) : Kd.S kG e w1 W.heap.size (fun k => ok k ∧ k ≠ g) v xs := Kd.S_mono (Kd.S_bound hS) (fun k hk => ⟨hk.1, by have h1 := blk_lt hz; have h2 := hk.2.1; omega⟩)
theorem G_bound2 {g : Nat} {Pq : Nat → Prop} (h : Kd.S kG e w base (fun k => ok k ∧ k ≠ g) v xs) (hP : ∀ k, base ≤ k → k < w.heap.size → Pq k) (hb : base' ≤ base) : Kd.S kG e w base' (fun k => Pq k ∧ k ≠ g) v xs := Kd.S_lower (Kd.S_mono (Kd.S_bound h) (fun k hk => ⟨hP k hk.2.1 hk.2.2.1, hk.1.2⟩)) hb
end

end Go.Proofs.Ytjnobnmjhpmpfaa.P

namespace Go.Proofs.Ytjnobnmjhpmpfaa.P
open Go.RowKit Go.Proofs.YtjnobnmjhpmpfaaW.PrintWords Go.Proofs.YtjnobnmjhpmpfaaW.PrintLast Go.Proofs.YtjnobnmjhpmpfaaW.PrintMore
attribute [local go_sem] max2_int min2_int max_two min_two max_three min_three max_four min_four
set_option linter.unusedVariables false
set_option linter.unusedSimpArgs false

theorem blk_new_at {W : World} {o : Obj} {g : Nat} (h : g = W.heap.size) : (W.alloc o).heap[g]? = some o := by rw [h]; exact blk_new W o
theorem calls_as {P : Program} {f : Nat} {us vs : Array Value} {w : World} {Q : Ending → World → Prop} (e : us = vs) (h : Calls P f us w Q) : Calls P f vs w Q := e ▸ h
theorem cell_far3 {w : World} {g : Nat} {a : Addr} {u0 u1 u2 : Value} (h : a.block ≠ g) : (((w.setCell ⟨g, 0, none⟩ u0).setCell ⟨g, 1, none⟩ u1).setCell ⟨g, 2, none⟩ u2).cell? a = w.cell? a := ((cell_far (p := ⟨g, 2, none⟩) h u2).trans (cell_far (p := ⟨g, 1, none⟩) h u1)).trans (cell_far (p := ⟨g, 0, none⟩) h u0)
theorem size_set (w : World) (p : Addr) (u : Value) : (w.setCell p u).heap.size = w.heap.size := by simp
theorem le_alloc {w : World} {o : Obj} {s : Nat} (h : s ≤ w.heap.size) : s ≤ (w.alloc o).heap.size := by simp; omega
theorem lt_alloc {w : World} {o : Obj} {s : Nat} (h : s < w.heap.size) : s < (w.alloc o).heap.size := by simp; omega

end Go.Proofs.Ytjnobnmjhpmpfaa.P

namespace Go.Proofs.Ytjnobnmjhpmpfaa.P
open Go.RowKit Go.Proofs.YtjnobnmjhpmpfaaW.PrintWords Go.Proofs.YtjnobnmjhpmpfaaW.PrintLast Go.Proofs.YtjnobnmjhpmpfaaW.PrintMore
attribute [local go_sem] max2_int min2_int max_two min_two max_three min_three max_four min_four
set_option linter.unusedVariables false
set_option linter.unusedSimpArgs false

/-! ### impl_within: function 50 -/
def impl_within.f (a0 : Int) (a1 : Int) (a2 : Int) : Option (Bool) := if a0 ≥ a1 then (some (decide (a0 ≤ a2))) else (some false)
set_option maxHeartbeats 8000000 in
set_option maxRecDepth 100000 in
theorem impl_within.calls (a0 : Int) (a1 : Int) (a2 : Int) (r : Bool) (w : World) (h : impl_within.f a0 a1 a2 = some r) :
    Calls Try.prog 50 #[.int .i64 a0, .int .i64 a1, .int .i64 a2] w fun e w' => e = .returned (.bool r) ∧ Drawn0 w w' := by
  have H : (if a0 ≥ a1 then (some (decide (a0 ≤ a2))) else (some false)) = some r := h
  clear h
  by_cases c4 : a0 ≥ a1
  · rw [if_pos c4] at H
    have c4b0 : decide (a1 ≤ a0) = true := decide_eq_true c4
    clear c4
    obtain rfl := Option.some.inj H
    go_enter Try.func50, Try.ntmps50
    go_wp2
    go_ret
    exact ⟨by first | rfl | (simp; done) | (simp [*]; done), by repeat (first | exact Drawn0.refl _ | apply Drawn0.step)⟩
  · rw [if_neg c4] at H
    have c4b0 : decide (a1 ≤ a0) = false := decide_eq_false c4
    clear c4
    obtain rfl := Option.some.inj H
    go_enter Try.func50, Try.ntmps50
    go_wp2
    go_ret
    exact ⟨by first | rfl | (simp; done) | (simp [*]; done), by repeat (first | exact Drawn0.refl _ | apply Drawn0.step)⟩

end Go.Proofs.Ytjnobnmjhpmpfaa.P

namespace Go.Proofs.Ytjnobnmjhpmpfaa.P
open Go.RowKit Go.Proofs.YtjnobnmjhpmpfaaW.PrintWords Go.Proofs.YtjnobnmjhpmpfaaW.PrintLast Go.Proofs.YtjnobnmjhpmpfaaW.PrintMore
attribute [local go_sem] max2_int min2_int max_two min_two max_three min_three max_four min_four
set_option linter.unusedVariables false
set_option linter.unusedSimpArgs false

/-! ### spec_l00In: function 61 -/
def spec_l00In.f (a0 : Int) (a1 : Int) (a2 : Int) : Option (Bool) := if a0 ≥ a1 then (some (decide (a0 ≤ a2))) else (some false)
set_option maxHeartbeats 8000000 in
set_option maxRecDepth 100000 in
theorem spec_l00In.calls (a0 : Int) (a1 : Int) (a2 : Int) (r : Bool) (w : World) (h : spec_l00In.f a0 a1 a2 = some r) :
    Calls Try.prog 61 #[.int .i64 a0, .int .i64 a1, .int .i64 a2] w fun e w' => e = .returned (.bool r) ∧ Drawn0 w w' := by
  have H : (if a0 ≥ a1 then (some (decide (a0 ≤ a2))) else (some false)) = some r := h
  clear h
  by_cases c4 : a0 ≥ a1
  · rw [if_pos c4] at H
    have c4b0 : decide (a1 ≤ a0) = true := decide_eq_true c4
    clear c4
    obtain rfl := Option.some.inj H
    go_enter Try.func61, Try.ntmps61
    go_wp2
    go_ret
    exact ⟨by first | rfl | (simp; done) | (simp [*]; done), by repeat (first | exact Drawn0.refl _ | apply Drawn0.step)⟩
  · rw [if_neg c4] at H
    have c4b0 : decide (a1 ≤ a0) = false := decide_eq_false c4
    clear c4
    obtain rfl := Option.some.inj H
    go_enter Try.func61, Try.ntmps61
    go_wp2
    go_ret
    exact ⟨by first | rfl | (simp; done) | (simp [*]; done), by repeat (first | exact Drawn0.refl _ | apply Drawn0.step)⟩

end Go.Proofs.Ytjnobnmjhpmpfaa.P

namespace Go.Proofs.Ytjnobnmjhpmpfaa.P
open Go.RowKit Go.Proofs.YtjnobnmjhpmpfaaW.PrintWords Go.Proofs.YtjnobnmjhpmpfaaW.PrintLast Go.Proofs.YtjnobnmjhpmpfaaW.PrintMore
attribute [local go_sem] max2_int min2_int max_two min_two max_three min_three max_four min_four
set_option linter.unusedVariables false
set_option linter.unusedSimpArgs false

theorem impl_within_eq (n lo hi : Int) : impl_within.f n lo hi = some (decide (lo ≤ n ∧ n ≤ hi)) := by
  unfold impl_within.f
  by_cases h : n ≥ lo
  · rw [if_pos h]; congr 1; by_cases h2 : n ≤ hi <;> simp [h, h2]
  · rw [if_neg h]; congr 1; simp; omega
theorem spec_l00In_eq (n lo hi : Int) : spec_l00In.f n lo hi = some (decide (lo ≤ n ∧ n ≤ hi)) := by
  unfold spec_l00In.f
  by_cases h : n ≥ lo
  · rw [if_pos h]; congr 1; by_cases h2 : n ≤ hi <;> simp [h, h2]
  · rw [if_neg h]; congr 1; simp; omega
end Go.Proofs.Ytjnobnmjhpmpfaa.P

namespace Go.Proofs.Ytjnobnmjhpmpfaa.P
open Go.RowKit Go.Proofs.YtjnobnmjhpmpfaaW.PrintWords Go.Proofs.YtjnobnmjhpmpfaaW.PrintLast Go.Proofs.YtjnobnmjhpmpfaaW.PrintMore
attribute [local go_sem] max2_int min2_int max_two min_two max_three min_three max_four min_four
set_option linter.unusedVariables false
set_option linter.unusedSimpArgs false

theorem wr {x : Int} (h1 : -9223372036854775808 ≤ x) (h2 : x ≤ 9223372036854775807) : wrap64 x = x := by
  unfold wrap64; omega
end Go.Proofs.Ytjnobnmjhpmpfaa.P

namespace Go.Proofs.Ytjnobnmjhpmpfaa.P
open Go.RowKit Go.Proofs.YtjnobnmjhpmpfaaW.PrintWords Go.Proofs.YtjnobnmjhpmpfaaW.PrintLast Go.Proofs.YtjnobnmjhpmpfaaW.PrintMore
attribute [local go_sem] max2_int min2_int max_two min_two max_three min_three max_four min_four
set_option linter.unusedVariables false
set_option linter.unusedSimpArgs false

/-! ### laws_toGateS: function 45 (by hand) -/
mutual
def laws_toGateS.l0 : Nat → List S24 → List S29 → Int → Option (List S29)
  | 0, _, _, _ => none
  | k + 1, l, out, i => if i < (l.length : Int) then (if 0 ≤ i then ((laws_toGate.f k (rd_T24 l i).f0 (rd_T24 l i).f1 (rd_T24 l i).f2).bind fun b => if i < (out.length : Int) then laws_toGateS.l0 k l (out.set i.toNat ⟨b.1, b.2.1, b.2.2⟩) (wrap64 (i + 1)) else none) else none) else some out
def laws_toGateS.f : Nat → List S24 → Option (List S29)
  | 0, _ => none
  | k + 1, l => if ((l.length : Int)).toNat ≤ 7036874417766 then laws_toGateS.l0 k l (List.replicate ((l.length : Int)).toNat z29) 0 else none
def laws_toGate.f : Nat → Int → Int → List S24 → Option (Int × Int × List S29)
  | 0, _, _, _ => none
  | k + 1, a0, a1, l => (laws_toGateS.f k l).bind fun t => some (a0, a1, t)
end
set_option maxHeartbeats 8000000 in
set_option maxRecDepth 100000 in
theorem laws_toGate.calls_of (k : Nat) (IH : ∀ (A0 : Option Addr) (c0 : Nat) (l0 : List S24) (r : List S29) (w : World) (hr0 : Kd.C k24 w A0 l0.length l0) (hc0 : l0.length ≤ c0) (h : laws_toGateS.f k l0 = some r), Calls Try.prog 45 #[.slice A0 l0.length c0] w fun e w' => ∃ v : Value, e = .returned v ∧ Kd.S kG 29 w' w.heap.size (fun _ => True) v r ∧ Below w.heap.size w w') (a0_0 : Int) (a0_1 : Int) (A0_2 : Option Addr) (c0_2 : Nat) (l0_2 : List S24) (r1 : Int) (r2 : Int) (r3 : List S29) (w : World) (hr0_2 : Kd.C k24 w A0_2 l0_2.length l0_2) (hc0_2 : l0_2.length ≤ c0_2) (h : laws_toGate.f (k + 1) a0_0 a0_1 l0_2 = some (r1, r2, r3)) :
    Calls Try.prog 14 #[.agg #[.int .i64 a0_0, .int .i64 a0_1, .slice A0_2 l0_2.length c0_2]] w fun e w' => ∃ v2_ : Value, e = .returned (.agg #[.int .i64 r1, .int .i64 r2, v2_]) ∧ Kd.S kG 29 w' w.heap.size (fun _ => True) v2_ r3 ∧ Below w.heap.size w w' := by
  have hu24 := Try.underlying24
  have hu29 := Try.underlying29
  have HR := Aside0.mk hr0_2
  have HC := Aside0.mk hc0_2
  clear hr0_2 hc0_2
  simp only [laws_toGate.f] at h
  replace h := Option.bind_eq_some_iff.mp h
  obtain ⟨t, At, H⟩ := h
  obtain ⟨rfl, rfl, rfl⟩ := (by simpa using H : a0_0 = r1 ∧ a0_1 = r2 ∧ t = r3)
  have A1 := Aside0.mk At
  clear At H
  go_enter Try.func14, Try.ntmps14
  go_wp2_with (first | (go_at_call 45; (with_reducible refine (IH _ _ l0_2 t _ ?side1 ?side2 A1.out).mono ?_); (case side1 => repeat (first | exact HR.out | (with_reducible refine Kd.C_alloc ?_ _) | (with_reducible refine Kd.C_drewN ?_ _) | (with_reducible refine Kd.C_drew ?_))); (case side2 => exact HC.out); rintro e w1 ⟨v, rfl, ho, hb⟩; have n1_ := Aside0.mk (blk_below (g := w.heap.size + 1) (o := .cells #[(.int .i64 0 : Value), (.int .i64 0 : Value), (.slice none 0 0 : Value)] 29 (0, 0)) (by repeat (first | exact blk_new_at (by simp) | (with_reducible refine blk_drewN ?_ _) | (with_reducible refine blk_drew ?_) | (with_reducible refine blk_alloc ?_ _))) hb); have n2_ := Aside0.mk (blk_below (g := w.heap.size + 2) (o := .cells #[.int .i64 a0_0, .int .i64 a0_1, (.slice none 0 0 : Value)] 29 (0, 0)) (by repeat (first | exact blk_new_at (by simp) | (with_reducible refine blk_drewN ?_ _) | (with_reducible refine blk_drew ?_) | (with_reducible refine blk_alloc ?_ _))) hb); have n3_ : Aside0 (Below w.heap.size w w1) := Aside0.mk (below_step (by repeat (first | exact Below.refl _ _ | apply below_alloc | apply pw_below_drewN | apply below_drew1)) hb); have HO := Aside0.mk (Kd.S_lower (base' := w.heap.size) (Kd.S_mono (Kd.S_bound ho) (ok' := fun k_ => w.heap.size + 3 ≤ k_) (fun k_ hk_ => by have h_ := hk_.2.1; (try simp at h_); omega)) (by simp; omega)); obtain ⟨Az, cz, ez⟩ := Kd.S_slice HO.out; subst ez; clear ho hb; have hl1 : w.heap.size + 2 < w1.heap.size := blk_lt n2_.out; have hx0 : w1.cell? ⟨w.heap.size + 1, 0, none⟩ = some ((.int .i64 0 : Value)) := (blk_cell n1_.out 0).trans rfl; have hxf0 := blk_frozen n1_.out 0; have hx1 : w1.cell? ⟨w.heap.size + 1, 1, none⟩ = some ((.int .i64 0 : Value)) := (blk_cell n1_.out 1).trans rfl; have hxf1 := blk_frozen n1_.out 1; have hx2 : w1.cell? ⟨w.heap.size + 1, 2, none⟩ = some ((.slice none 0 0 : Value)) := (blk_cell n1_.out 2).trans rfl; have hxf2 := blk_frozen n1_.out 2; have hz0 : w1.cell? ⟨w.heap.size + 2, 0, none⟩ = some (.int .i64 a0_0) := (blk_cell n2_.out 0).trans rfl; have hzf0 := blk_frozen n2_.out 0; have hz1 : w1.cell? ⟨w.heap.size + 2, 1, none⟩ = some (.int .i64 a0_1) := (blk_cell n2_.out 1).trans rfl; have hzf1 := blk_frozen n2_.out 1; have hz2 : w1.cell? ⟨w.heap.size + 2, 2, none⟩ = some ((.slice none 0 0 : Value)) := (blk_cell n2_.out 2).trans rfl; have hzf2 := blk_frozen n2_.out 2))
  (try simp only [Exit.inBlock, Exit.then])
  refine bodyPost_ret (results_cell_row rfl _ _ (w.heap.size + 1) 29 #[.int .i64 a0_0, .int .i64 a0_1, .slice Az t.length cz] (0, 0) _ rfl (blk_put (blk_put (blk_put (blk_far (p := ⟨w.heap.size + 2, 2, none⟩) n1_.out (by dsimp only; omega) _) 0 _ rfl) 1 _ rfl) 2 _ rfl) Try.underlying29 rfl (by kernel_rfl)) rfl ?_
  exact ⟨_, rfl, Kd.S_mono (Kd.S_far (Kd.S_far (Kd.S_far (Kd.S_far (HO.out) (fun k_ hk_ => by dsimp only; have h_ := hk_; omega) _) (fun k_ hk_ => by dsimp only; have h_ := hk_; omega) _) (fun k_ hk_ => by dsimp only; have h_ := hk_; omega) _) (fun k_ hk_ => by dsimp only; have h_ := hk_; omega) _) (fun _ _ => trivial), below_set (below_set (below_set (below_set n3_.out (by omega)) (by omega)) (by omega)) (by omega)⟩
set_option maxHeartbeats 8000000 in
set_option maxRecDepth 100000 in
theorem laws_toGateS.calls (k : Nat) : ∀ (A0 : Option Addr) (c0 : Nat) (l0 : List S24) (r : List S29) (w : World) (hr0 : Kd.C k24 w A0 l0.length l0) (hc0 : l0.length ≤ c0) (h : laws_toGateS.f k l0 = some r),
    Calls Try.prog 45 #[.slice A0 l0.length c0] w fun e w' => ∃ v : Value, e = .returned v ∧ Kd.S kG 29 w' w.heap.size (fun _ => True) v r ∧ Below w.heap.size w w' := by
  induction k using Nat.strongRecOn with
  | _ k ih =>
  have ihG : ∀ m, m < k → ∀ (a0_0 : Int) (a0_1 : Int) (A0_2 : Option Addr) (c0_2 : Nat) (l0_2 : List S24) (r1 : Int) (r2 : Int) (r3 : List S29) (w : World) (hr0_2 : Kd.C k24 w A0_2 l0_2.length l0_2) (hc0_2 : l0_2.length ≤ c0_2) (h : laws_toGate.f m a0_0 a0_1 l0_2 = some (r1, r2, r3)), Calls Try.prog 14 #[.agg #[.int .i64 a0_0, .int .i64 a0_1, .slice A0_2 l0_2.length c0_2]] w fun e w' => ∃ v2_ : Value, e = .returned (.agg #[.int .i64 r1, .int .i64 r2, v2_]) ∧ Kd.S kG 29 w' w.heap.size (fun _ => True) v2_ r3 ∧ Below w.heap.size w w' := by
    intro m hm
    cases m with
    | zero => intro a0_0 a0_1 A0_2 c0_2 l0_2 r1 r2 r3 w hr0_2 hc0_2 h; exact absurd h (by simp [laws_toGate.f])
    | succ m => intro a0_0 a0_1 A0_2 c0_2 l0_2 r1 r2 r3 w hr0_2 hc0_2 h; exact laws_toGate.calls_of m (ih m (by omega)) a0_0 a0_1 A0_2 c0_2 l0_2 r1 r2 r3 w hr0_2 hc0_2 h
  intro A0 c0 l0 r w hr0 hc0 h
  cases k with
  | zero => exact absurd h (by simp [laws_toGateS.f])
  | succ k =>
  simp only [laws_toGateS.f] at h
  have hu24 := Try.underlying24
  have hu29 := Try.underlying29
  have HR0 := Aside0.mk hr0
  clear hr0 hc0
  have HB := Aside0.mk (Below.refl w.heap.size w)
  clear ih
  by_cases c3 : ((l0.length : Int)).toNat ≤ 7036874417766
  · rw [if_pos c3] at h
    have HL := Aside0.mk c3
    clear c3
    have c2b0 := eq_true (show (0 : Int) ≤ (l0.length : Int) by omega)
    have c2b1 : decide (0 ≤ (l0.length : Int)) = true := decide_eq_true (by omega)
    have H' := Aside0.mk h
    clear h
    go_enter Try.func45, Try.ntmps45
    go_wp2_with (first | ((with_reducible refine gate_dst (N := 7) rfl ?_); refine Kd.S_make kG _ 29 rfl (N := 7) rfl 27 _ _ rfl (l0.length : Int) rfl rfl Try.underlying27 (.agg #[.int .i64 0, .int .i64 0, .slice none 0 0]) 40 info29 rfl (by decide) (by omega) z29 (ok := fun _ => True) (okp := fun _ => True) (kG_mkM (x := z29) (GS_nil _ _ _)) (fun _ hk => hk) trivial (by omega) (by have := HL.out; omega) (Below.refl _ _) (Nat.le_refl _) ?_; intro v316 w4 ho5 hb hg_ hnew_; clear hg_ hnew_; have n0_ := Aside0.mk (Kd.S_lower ho5 (below_size (by repeat (first | (with_reducible first | exact HB.out | apply below_alloc | apply pw_below_drewN | apply below_drew1) | exact HB.out)))); have n1_ := Aside0.mk (below_step (by repeat (first | (with_reducible first | exact HB.out | apply below_alloc | apply pw_below_drewN | apply below_drew1) | exact HB.out)) hb); clear HB; have HO317 := n0_; have HB := n1_; clear n0_ n1_; clear hb ho5))
    go_loopg [4] k (fun kq v4 w' => ∃ (x3 : List S29) (x4 : Int), v4 = .int .i64 x4 ∧ Aside0 (laws_toGateS.l0 kq l0 x3 x4 = some r) ∧ Aside0 (kq ≤ k) ∧ Aside0 (Kd.S kG 29 w' w.heap.size (fun _ => True) v316 x3) ∧ Aside0 (Below w.heap.size w w'))
    case atStart => exact ⟨_, (0), (by first | rfl | (simp; done)), H', ⟨Nat.le_refl _⟩, ⟨HO317.out⟩, ⟨HB.out⟩⟩
    case round =>
      clear H' HO317 HB
      obtain ⟨x3, x4, rfl, HA, HK, HO, HB⟩ := hrel
      cases gk with
      | zero => exact absurd HA.out (by simp [laws_toGateS.l0])
      | succ k1 =>
        have H := HA.out
        clear HA
        simp only [laws_toGateS.l0] at H
        by_cases c6 : x4 < (l0.length : Int)
        · rw [if_pos c6] at H
          have c6b0 : decide (x4 < (l0.length : Int)) = true := decide_eq_true c6
          by_cases c7 : 0 ≤ x4
          · rw [if_pos c7] at H
            have c7b0 : decide (0 ≤ x4) = true := decide_eq_true c7
            replace H := Option.bind_eq_some_iff.mp H
            obtain ⟨⟨b1, b2, b3⟩, At, H⟩ := H
            have A7 := Aside0.mk At
            clear At
            dsimp only at H
            by_cases c9 : x4 < (x3.length : Int)
            · rw [if_pos c9] at H
              have H' := Aside0.mk H
              clear H
              obtain ⟨ad, A2, c2, e318, hx0, hx1, hx2, hl2, hi2⟩ := at_T24 HR0.out x4 c7 c6
              cases e318
              replace hx0 := (HB.out.cell (World.block_lt_of_cell? w _ hx0)).trans hx0
              replace hx1 := (HB.out.cell (World.block_lt_of_cell? w _ hx1)).trans hx1
              replace hx2 := (HB.out.cell (World.block_lt_of_cell? w _ hx2)).trans hx2
              have HI := Aside0.mk hi2
              have HL2 := Aside0.mk hl2
              clear hi2 hl2
              obtain ⟨g, cg, rfl, gb, gl⟩ := (by obtain ⟨g, cg, e, h1, h2, _⟩ := Kd.S_form HO.out (by omega); exact ⟨g, cg, e, h1, h2⟩ : ∃ g cg, v316 = .slice (some ⟨g, 0, none⟩) x3.length cg ∧ w.heap.size ≤ g ∧ g < wr.heap.size)
              have hgl := Aside0.mk gl
              clear gl gb
              have p4 := c7
              have q4 := c9
              skip
              replace c7 := eq_true c7
              replace c6 := eq_true c6
              have c9b0 : decide (x4 < (x3.length : Int)) = true := decide_eq_true c9
              replace c9 := eq_true c9
              go_wp2_with (first | ((with_reducible refine gate_callee (f := 14) rfl ?_); refine goesL_ (some 20) rfl rfl Try.func14 (by kernel_rfl) rfl #[.agg #[.int .i64 (rd_T24 l0 x4).f0, .int .i64 (rd_T24 l0 x4).f1, .slice A2 (rd_T24 l0 x4).f2.length c2]] rfl (by (try simp only [List.map_toArray, List.map_cons, List.map_nil]); first | done | rfl) ?_; (with_reducible refine (ihG k1 (by have := HK.out; omega) (rd_T24 l0 x4).f0 (rd_T24 l0 x4).f1 _ _ (rd_T24 l0 x4).f2 b1 b2 b3 _ ?side1 ?side2 A7.out).mono ?_); (case side1 => exact Kd.C_below HI.out (by repeat (first | (with_reducible first | exact HB.out | apply below_alloc | apply pw_below_drewN | apply below_drew1) | exact HB.out))); (case side2 => exact HL2.out); rintro e w5 ⟨v, rfl, ho, hb⟩; refine ⟨_, rfl, ?_⟩; have q1_ : Aside0 (Kd.S kG 29 w5 w.heap.size (fun k_ => True ∧ ¬ wr.heap.size ≤ k_) (.slice (some ⟨g, 0, none⟩) x3.length cg) x3) := ⟨Kd.S_mono (Kd.S_old (by (with_reducible repeat (first | apply Kd.S_alloc | apply Kd.S_drewN | apply Kd.S_drew)); exact HO.out) hb) (fun k_ hk_ => ⟨trivial, Nat.not_le.2 hk_.2⟩)⟩; have q3_ := Aside0.mk (below_step (by repeat (first | (with_reducible first | exact HB.out | apply below_alloc | apply pw_below_drewN | apply below_drew1) | exact HB.out)) hb); have q2_ := Aside0.mk (Kd.S_lower (base' := w.heap.size) (Kd.S_mono (Kd.S_bound ho) (ok' := fun k_ => wr.heap.size ≤ k_) (fun k_ hk_ => by have h_ := hk_.2.1; (try simp at h_); omega)) (below_size (by repeat (first | (with_reducible first | exact HB.out | apply below_alloc | apply pw_below_drewN | apply below_drew1) | exact HB.out)))); clear HO HB; have HO := q1_; have HB := q3_; clear q1_ q3_; obtain ⟨Az, cz, ez⟩ := Kd.S_slice q2_.out; subst ez; clear ho hb; obtain ⟨oki, ce, hcl, _, _, _, _, hH⟩ := Kd.S_elem HO.out z29 x4 p4 q4; have HH := Aside0.mk (Kd.H_more (okg := fun k_ => wr.heap.size ≤ k_) hH (fun _ _ => trivial)); replace hcl := Aside0.mk hcl; clear hH HO) | ((with_reducible refine gate_store (t := 29) (p := 21) rfl ?_); refine Kd.H_store kG _ rfl rfl 29 _ _ rfl 29 (g := g) x4 0 x3 (⟨b1, b2, b3⟩ : S29) (.agg #[.int .i64 b1, .int .i64 b2, .slice Az b3.length cz]) [.int .i64 b1, .int .i64 b2, .slice Az b3.length cz] ce (fun _ => True) (fun k_ => oki k_ ∨ wr.heap.size ≤ k_) (fun k_ => wr.heap.size ≤ k_) rfl ?hoff rfl rfl rfl ?h1 HH.out p4 q4 ?hj ?hM (fun k_ hk_ => Or.inr hk_) HB.out ?_; (case hoff => rfl); (case h1 => simp [Value.oneCell']); (case hj => exact Nat.le_refl 3); (case hM => rw [List.drop_eq_nil_of_le (by have hcl3 : ce.length = 3 := hcl.out; simp; omega), List.append_nil]; exact kG_mkM (x := (⟨b1, b2, b3⟩ : S29)) q2_.out); intro w6 ho6 hb6 hg6; clear HH HB hg6; have HO := Aside0.mk ho6; have HB := Aside0.mk hb6; clear ho6 hb6))
              go_roundg k1
              case measure => have := HK.out; omega
              case rel => exact ⟨_, (wrap64 (x4 + 1)), (by first | rfl | (simp; done) | (simp [*]; done)), H', ⟨by have := HK.out; omega⟩, ⟨HO.out⟩, ⟨HB.out⟩⟩
            · rw [if_neg c9] at H
              exact absurd H (by simp)
          · rw [if_neg c7] at H
            exact absurd H (by simp)
        · rw [if_neg c6] at H
          have c6b0 : decide (x4 < (l0.length : Int)) = false := decide_eq_false c6
          clear c6
          obtain rfl := Option.some.inj H
          go_wp2
          go_ret
          exact ⟨_, rfl, HO.out, HB.out⟩
  · rw [if_neg c3] at h
    exact absurd h (by simp)

end Go.Proofs.Ytjnobnmjhpmpfaa.P

namespace Go.Proofs.Ytjnobnmjhpmpfaa.P
open Go.RowKit Go.Proofs.YtjnobnmjhpmpfaaW.PrintWords Go.Proofs.YtjnobnmjhpmpfaaW.PrintLast Go.Proofs.YtjnobnmjhpmpfaaW.PrintMore
attribute [local go_sem] max2_int min2_int max_two min_two max_three min_three max_four min_four
set_option linter.unusedVariables false
set_option linter.unusedSimpArgs false

/-! ### laws_toGate: function 14 (by hand) -/
theorem laws_toGate.calls (k : Nat) (a0_0 : Int) (a0_1 : Int) (A0_2 : Option Addr) (c0_2 : Nat) (l0_2 : List S24) (r1 : Int) (r2 : Int) (r3 : List S29) (w : World) (hr0_2 : Kd.C k24 w A0_2 l0_2.length l0_2) (hc0_2 : l0_2.length ≤ c0_2) (h : laws_toGate.f k a0_0 a0_1 l0_2 = some (r1, r2, r3)) :
    Calls Try.prog 14 #[.agg #[.int .i64 a0_0, .int .i64 a0_1, .slice A0_2 l0_2.length c0_2]] w fun e w' => ∃ v2_ : Value, e = .returned (.agg #[.int .i64 r1, .int .i64 r2, v2_]) ∧ Kd.S kG 29 w' w.heap.size (fun _ => True) v2_ r3 ∧ Below w.heap.size w w' := by
  cases k with
  | zero => exact absurd h (by simp [laws_toGate.f])
  | succ k => exact laws_toGate.calls_of k (laws_toGateS.calls k) a0_0 a0_1 A0_2 c0_2 l0_2 r1 r2 r3 w hr0_2 hc0_2 h

end Go.Proofs.Ytjnobnmjhpmpfaa.P

namespace Go.Proofs.Ytjnobnmjhpmpfaa.P
open Go.RowKit Go.Proofs.YtjnobnmjhpmpfaaW.PrintWords Go.Proofs.YtjnobnmjhpmpfaaW.PrintLast Go.Proofs.YtjnobnmjhpmpfaaW.PrintMore
attribute [local go_sem] max2_int min2_int max_two min_two max_three min_three max_four min_four
set_option linter.unusedVariables false
set_option linter.unusedSimpArgs false

/-! ### laws_markGateS: function 57 (by hand) -/
mutual
def laws_markGateS.l0 : Nat → List S29 → Int → Int → Option (Int × List S29)
  | 0, _, _, _ => none
  | k + 1, xs, m, i => if i < (xs.length : Int) then (if 0 ≤ i then ((laws_markGateS.f k (rd_T29 xs i).f2 (wrap64 (wrap64 (m + 1) + 1))).bind fun t => laws_markGateS.l0 k (xs.set i.toNat ⟨m, wrap64 (m + 1), t.2⟩) t.1 (wrap64 (i + 1))) else none) else some (m, xs)
def laws_markGateS.f : Nat → List S29 → Int → Option (Int × List S29)
  | 0, _, _ => none
  | k + 1, xs, m => laws_markGateS.l0 k xs m 0
end
theorem markG_two {w : World} {base g n cap : Nat} {ok oki : Nat → Prop} {xs : List S29} {i : Int} {u0 u1 u2 : Value} (h : Kd.H kG 29 w base ok (.slice (some ⟨g, 0, none⟩) n cap) xs i oki [u0, u1, u2]) (h0 : 0 ≤ i) (h1 : i < n) (a b : Int) :
    Kd.H kG 29 ((w.setCell ⟨g, i.toNat * 3, none⟩ (.int .i64 a)).setCell ⟨g, i.toNat * 3 + 1, none⟩ (.int .i64 b)) base ok (.slice (some ⟨g, 0, none⟩) n cap) xs i oki [.int .i64 a, .int .i64 b, u2] :=
  (Kd.H_seg h h0 h1 (seg := [.int .i64 a, .int .i64 b]) (j := 0) (by show 0 + 2 ≤ 3; omega) (fun q hq => by
    rcases List.mem_cons.1 hq with rfl | hq
    · rfl
    · rw [List.mem_singleton.1 hq]; rfl)).1
set_option maxHeartbeats 8000000 in
set_option maxRecDepth 100000 in
theorem laws_markGateS.callsM (k : Nat) : ∀ (P0_ : Nat → Prop) (u : Value) (l0 : List S29) (a1 : Int) (r1 : Int) (r2 : List S29) (w0 w : World) (hB : Below w0.heap.size w0 w) (ho0 : Kd.S kG 29 w w0.heap.size P0_ u l0) (h : laws_markGateS.f k l0 a1 = some (r1, r2)),
    Calls Try.prog 57 #[u, .int .i64 a1] w fun e w' => e = .returned (.int .i64 r1) ∧ Kd.S kG 29 w' w0.heap.size P0_ u r2 ∧ Below w0.heap.size w0 w' ∧ Kept w w' P0_ := by
  induction k using Nat.strongRecOn with
  | _ k ih =>
  intro P0_ u l0 a1 r1 r2 w0 w hB ho0 h
  cases k with
  | zero => exact absurd h (by simp [laws_markGateS.f])
  | succ k =>
  simp only [laws_markGateS.f] at h
  obtain ⟨Ao, co, rfl⟩ := Kd.S_slice ho0
  have HO := Aside0.mk ho0
  have HB := Aside0.mk hB
  have HK := Aside0.mk (Kept.refl w P0_)
  have H' := Aside0.mk h
  have IH := Aside0.mk ih
  clear ho0 hB h ih
  have hu29 := Try.underlying29
  go_enter Try.func57, Try.ntmps57
  go_wp2
  go_loopg [1, 5] k (fun kq v1 v5 w' => ∃ (x1 x5 : Int) (xs : List S29), v1 = .int .i64 x1 ∧ v5 = .int .i64 x5 ∧ Aside0 (laws_markGateS.l0 kq xs x1 x5 = some (r1, r2)) ∧ Aside0 (kq ≤ k) ∧ Aside0 (Kd.S kG 29 w' w0.heap.size P0_ (.slice Ao l0.length co) xs) ∧ Aside0 (Below w0.heap.size w0 w') ∧ Aside0 (Kept w w' P0_))
  case atStart => exact ⟨a1, 0, l0, rfl, rfl, H', ⟨Nat.le_refl _⟩, HO, HB, HK⟩
  case round =>
    clear H' HB HK HO
    obtain ⟨x1, x5, xs, rfl, rfl, HA, HK1, HO, HB, HK⟩ := hrel
    cases gk with
    | zero => exact absurd HA.out (by simp [laws_markGateS.l0])
    | succ k1 =>
      have H := HA.out
      clear HA
      simp only [laws_markGateS.l0] at H
      have hlen := (Kd.S_reads' HO.out).1
      by_cases c6 : x5 < (xs.length : Int)
      · rw [if_pos c6] at H
        have c6b0 : decide (x5 < (l0.length : Int)) = true := decide_eq_true (by omega)
        by_cases c7 : 0 ≤ x5
        · rw [if_pos c7] at H
          have c7b0 : decide (0 ≤ x5) = true := decide_eq_true c7
          replace H := Option.bind_eq_some_iff.mp H
          obtain ⟨⟨t1, t2⟩, At, H⟩ := H
          have A3 := Aside0.mk At
          have H' := Aside0.mk H
          clear At H
          obtain ⟨g, cap, eo, hg0, hg1, _⟩ := Kd.S_form HO.out (by omega)
          injection eo with ea_ en_ ec_
          subst ea_
          have hPg : P0_ g := (Kd.S_R HO.out).1 g rfl
          obtain ⟨oki, c, hcl, hM, hcc, hfr, hoki, hH⟩ := Kd.S_elem HO.out z29 x5 c7 (by omega)
          obtain ⟨v1, rfl, hR⟩ := kG_openM hM
          have hR : Kd.S kG 29 wr w0.heap.size oki v1 (rd_T29 xs x5).f2 := hR
          obtain ⟨Ae, ce, rfl⟩ := Kd.S_slice hR
          have hx0 : wr.cell? ⟨g, x5.toNat * 3, none⟩ = some (.int .i64 (rd_T29 xs x5).f0) := hcc 0 _ rfl
          have hx1 : wr.cell? ⟨g, x5.toNat * 3 + 1, none⟩ = some (.int .i64 (rd_T29 xs x5).f1) := hcc 1 _ rfl
          have hx2 : wr.cell? ⟨g, x5.toNat * 3 + 2, none⟩ = some (.slice Ae (rd_T29 xs x5).f2.length ce) := hcc 2 _ rfl
          have hf0 : wr.frozen? ⟨g, x5.toNat * 3, none⟩ = false := hfr 0
          have hf1 : wr.frozen? ⟨g, x5.toNat * 3 + 1, none⟩ = false := hfr 1
          have HR := Aside0.mk hR
          have HH := Aside0.mk (markG_two hH c7 (by omega) x1 (wrap64 (x1 + 1)))
          have HOK := Aside0.mk hoki
          have HG := Aside0.mk (And.intro hg0 hPg)
          have CI := Aside0.mk (And.intro c7 c6)
          have p6 : (x5 < (l0.length : Int)) = True := eq_true (by omega)
          have p7 := eq_true c7
          clear hR hH hoki hcc hcl hg0 hg1 en_ ec_ c6 c7 hlen hM hfr hPg
          go_wp2_with (first | (go_at_call 57; (refine (IH.out k1 (by have := HK1.out; omega) oki (.slice Ae (rd_T29 xs x5).f2.length ce) (rd_T29 xs x5).f2 (wrap64 (wrap64 (x1 + 1) + 1)) t1 t2 w0 _ ?side1 ?side2 A3.out).mono ?_); (case side1 => exact below_set (below_set HB.out HG.out.1) HG.out.1); (case side2 => exact Kd.S_far (Kd.S_far HR.out (fun k_ hk_ => (HOK.out k_ hk_).2) _) (fun k_ hk_ => (HOK.out k_ hk_).2) _); rintro e w' ⟨rfl, hr, hb, hk⟩))
          go_roundg k1
          case measure => have := HK1.out; omega
          case rel => exact ⟨t1, _, xs.set x5.toNat ⟨x1, wrap64 (x1 + 1), t2⟩, rfl, rfl, H', ⟨by have := HK1.out; omega⟩, ⟨Kd.H_back (Kd.H_kept HH.out hk (fun k_ _ hn => hn)) (kG_mkM (x := (⟨x1, wrap64 (x1 + 1), t2⟩ : S29)) hr) (fun _ h => h)⟩, ⟨hb⟩, ⟨Kept.then_ (Kept.setCell (Kept.setCell HK.out (.inl HG.out.2) _) (.inl HG.out.2) _) hk (fun k_ h_ => .inl (HOK.out k_ h_).1)⟩⟩
        · rw [if_neg c7] at H
          exact absurd H (by simp)
      · rw [if_neg c6] at H
        have c6b0 : decide (x5 < (l0.length : Int)) = false := decide_eq_false (by omega)
        clear c6 hlen
        injection H with H
        injection H with e1 e2
        subst e1 e2
        go_wp2
        go_ret
        exact ⟨rfl, HO.out, HB.out, HK.out⟩

end Go.Proofs.Ytjnobnmjhpmpfaa.P

namespace Go.Proofs.Ytjnobnmjhpmpfaa.P
open Go.RowKit Go.Proofs.YtjnobnmjhpmpfaaW.PrintWords Go.Proofs.YtjnobnmjhpmpfaaW.PrintLast Go.Proofs.YtjnobnmjhpmpfaaW.PrintMore
attribute [local go_sem] max2_int min2_int max_two min_two max_three min_three max_four min_four
set_option linter.unusedVariables false
set_option linter.unusedSimpArgs false

/-! ### laws_markGate: function 23 (by hand) -/
def laws_markGate.f (k : Nat) (a0_0 : Int) (a0_1 : Int) (l0_2 : List S29) (a1 : Int) : Option (Int × List S29) := laws_markGateS.f k l0_2 a1
set_option maxHeartbeats 8000000 in
set_option maxRecDepth 100000 in
theorem laws_markGate.callsM (k : Nat) (a0_0 : Int) (a0_1 : Int) (P0_ : Nat → Prop) (u : Value) (l0_2 : List S29) (a1 : Int) (r1 : Int) (r2 : List S29) (w0 w : World) (hB : Below w0.heap.size w0 w) (ho0 : Kd.S kG 29 w w0.heap.size P0_ u l0_2) (h : laws_markGate.f k a0_0 a0_1 l0_2 a1 = some (r1, r2)) :
    Calls Try.prog 23 #[.agg #[.int .i64 a0_0, .int .i64 a0_1, u], .int .i64 a1] w fun e w' => e = .returned (.int .i64 r1) ∧ Kd.S kG 29 w' w0.heap.size P0_ u r2 ∧ Below w0.heap.size w0 w' ∧ Kept w w' P0_ := by
  have hum := Try.underlying29
  obtain ⟨Ao, co, rfl⟩ := Kd.S_slice ho0
  have HO := Aside0.mk ho0
  have HB := Aside0.mk hB
  have A3 := Aside0.mk (show laws_markGateS.f k _ a1 = some (r1, r2) from h)
  clear ho0 hB h
  go_enter Try.func23, Try.ntmps23
  go_wp2_with (first | (go_at_call 57; (with_reducible refine (laws_markGateS.callsM k P0_ _ l0_2 a1 r1 r2 w0 _ ?side1 ?side2 A3.out).mono ?_); (case side1 => repeat (first | (with_reducible first | exact HB.out | apply below_alloc | apply pw_below_drewN | apply below_drew1) | exact HB.out)); (case side2 => (with_reducible repeat (first | apply Kd.S_alloc | apply Kd.S_drewN | apply Kd.S_drew)); exact HO.out); rintro e w' ⟨rfl, hr, hb, hk⟩))
  go_ret
  exact ⟨rfl, hr, hb, Kept.then_ (by repeat (first | exact Kept.refl _ _ | apply Kept.alloc | apply Kept.drewN | apply Kept.drew)) hk (fun _ h => .inl h)⟩

end Go.Proofs.Ytjnobnmjhpmpfaa.P

namespace Go.Proofs.Ytjnobnmjhpmpfaa.P
open Go.RowKit Go.Proofs.YtjnobnmjhpmpfaaW.PrintWords Go.Proofs.YtjnobnmjhpmpfaaW.PrintLast Go.Proofs.YtjnobnmjhpmpfaaW.PrintMore
attribute [local go_sem] max2_int min2_int max_two min_two max_three min_three max_four min_four
set_option linter.unusedVariables false
set_option linter.unusedSimpArgs false

/-! ### laws_heldGateS: function 58 -/
mutual
def laws_heldGateS.l0 : Nat → List (S29) → Int → Int → Option (Int)
  | 0, _, _, _ => none
  | k + 1, x0, x1, x5 => if x5 < (x0.length : Int) then (if 0 ≤ x5 then (if ((rd_T29 x0 x5).f0) = x1 then (if ((rd_T29 x0 x5).f1) = (wrap64 (x1 + 1)) then ((laws_heldGateS.f k ((rd_T29 x0 x5).f2) (wrap64 ((wrap64 (x1 + 1)) + 1))).bind fun t133 => (if t133 < 0 then (some (-1)) else (laws_heldGateS.l0 k x0 t133 (wrap64 (x5 + 1))))) else (some (-1))) else (some (-1))) else (none)) else (some x1)
def laws_heldGateS.f : Nat → List (S29) → Int → Option (Int)
  | 0, _, _ => none
  | k + 1, l0, a1 => laws_heldGateS.l0 k l0 a1 0
end
set_option maxHeartbeats 8000000 in
set_option maxRecDepth 100000 in
theorem laws_heldGateS.calls (k : Nat) : ∀ (A0 : Option Addr) (c0 : Nat) (l0 : List (S29)) (a1 : Int) (r : Int) (w : World) (hr0 : Kd.C k29 w A0 l0.length l0) (hc0 : l0.length ≤ c0) (h : laws_heldGateS.f k l0 a1 = some r),
    Calls Try.prog 58 #[.slice A0 l0.length c0, .int .i64 a1] w fun e w' => e = .returned (.int .i64 r) ∧ Drawn0 w w' := by
  induction k using Nat.strongRecOn with
  | _ k ih =>
  intro A0 c0 l0 a1 r w hr0 hc0 h
  cases k with
  | zero => exact absurd h (by simp [laws_heldGateS.f])
  | succ k =>
  simp only [laws_heldGateS.f] at h
  have HR0 := Aside0.mk hr0
  have HC0 := Aside0.mk hc0
  clear hr0 hc0
  have H : (laws_heldGateS.l0 k l0 a1 0) = some r := h
  clear h
  have H' := Aside0.mk H
  clear H
  go_enter Try.func58, Try.ntmps58
  go_wp2
  go_loopg [1, 5] k (fun kq v1 v5 w' => ∃ (x1_1 : Int) (x5_1 : Int), v1 = .int .i64 x1_1 ∧ v5 = .int .i64 x5_1 ∧ Aside0 (laws_heldGateS.l0 kq l0 x1_1 x5_1 = some r) ∧ Aside0 (kq ≤ k) ∧ Drawn0 w w')
  case atStart => exact ⟨(a1), (0), (by first | rfl | (simp; done) | (simp [*]; done)), (by first | rfl | (simp; done) | (simp [*]; done)), H', ⟨Nat.le_refl _⟩, by repeat (first | exact Drawn0.refl _ | apply Drawn0.step)⟩
  case round =>
    clear H'
    try clear p2
    obtain ⟨x1_1, x5_1, rfl, rfl, HA, HK1, ⟨m1, rfl⟩⟩ := hrel
    cases gk with
    | zero => exact absurd HA.out (by simp [laws_heldGateS.l0])
    | succ k1 =>
      have H := HA.out
      clear HA
      simp only [laws_heldGateS.l0] at H
      by_cases c3 : x5_1 < (l0.length : Int)
      · rw [if_pos c3] at H
        have c3b0 : decide (x5_1 < (l0.length : Int)) = true := decide_eq_true c3
        clear c3
        by_cases c4 : 0 ≤ x5_1
        · rw [if_pos c4] at H
          have c4b0 : decide (0 ≤ x5_1) = true := decide_eq_true c4
          clear c4
          by_cases c5 : ((rd_T29 l0 x5_1).f0) = x1_1
          · rw [if_pos c5] at H
            have c5b0 : (((rd_T29 l0 x5_1).f0) == x1_1) = true := beq_iff_eq.mpr c5
            have c5b1 : (((rd_T29 l0 x5_1).f0) != x1_1) = false := bne_eq_false_iff_eq.mpr c5
            clear c5
            by_cases c6 : ((rd_T29 l0 x5_1).f1) = (wrap64 (x1_1 + 1))
            · rw [if_pos c6] at H
              have c6b0 : (((rd_T29 l0 x5_1).f1) == (wrap64 (x1_1 + 1))) = true := beq_iff_eq.mpr c6
              have c6b1 : (((rd_T29 l0 x5_1).f1) != (wrap64 (x1_1 + 1))) = false := bne_eq_false_iff_eq.mpr c6
              clear c6
              replace H := Option.bind_eq_some_iff.mp H
              obtain ⟨t133, A70, H⟩ := H
              replace H : (if t133 < 0 then (some (-1)) else (laws_heldGateS.l0 k1 l0 t133 (wrap64 (x5_1 + 1)))) = some r := H
              have A7 := Aside0.mk A70
              clear A70
              by_cases c8 : t133 < 0
              · rw [if_pos c8] at H
                have c8b0 : decide (t133 < 0) = true := decide_eq_true c8
                clear c8
                obtain rfl := Option.some.inj H
                have p130 : 0 ≤ (x5_1 : Int) := of_decide_eq_true (by first | (with_reducible assumption) | assumption)
                have q130 : x5_1 < (l0.length : Int) := of_decide_eq_true (by first | (with_reducible assumption) | assumption)
                obtain ⟨ad130, A130_2, c130_2, e130, hx130_0, hx130_1, hx130_2, hl130_2, hi130_2⟩ := at_T29 HR0.out x5_1 p130 q130
                cases e130
                have HR130_2 := Aside0.mk hi130_2
                have HC130_2 := Aside0.mk hl130_2
                clear hi130_2 hl130_2
                replace p130 := eq_true p130
                replace q130 := eq_true q130
                have p131 : 0 ≤ (x5_1 : Int) := of_decide_eq_true (by first | (with_reducible assumption) | assumption)
                have q131 : x5_1 < (l0.length : Int) := of_decide_eq_true (by first | (with_reducible assumption) | assumption)
                obtain ⟨ad131, A131_2, c131_2, e131, hx131_0, hx131_1, hx131_2, hl131_2, hi131_2⟩ := at_T29 HR0.out x5_1 p131 q131
                obtain rfl : ad130 = ad131 := (by injection e131)
                have HR131_2 := Aside0.mk hi131_2
                have HC131_2 := Aside0.mk hl131_2
                clear hi131_2 hl131_2
                replace p131 := eq_true p131
                replace q131 := eq_true q131
                have ea_ := Option.some.inj (hx130_2.symm.trans hx131_2)
                injection ea_ with ea_ en_ ec_
                subst ea_
                subst ec_
                clear en_
                have p132 : 0 ≤ (x5_1 : Int) := of_decide_eq_true (by first | (with_reducible assumption) | assumption)
                have q132 : x5_1 < (l0.length : Int) := of_decide_eq_true (by first | (with_reducible assumption) | assumption)
                obtain ⟨ad132, A132_2, c132_2, e132, hx132_0, hx132_1, hx132_2, hl132_2, hi132_2⟩ := at_T29 HR0.out x5_1 p132 q132
                obtain rfl : ad130 = ad132 := (by injection e132)
                have HR132_2 := Aside0.mk hi132_2
                have HC132_2 := Aside0.mk hl132_2
                clear hi132_2 hl132_2
                replace p132 := eq_true p132
                replace q132 := eq_true q132
                have ea_ := Option.some.inj (hx130_2.symm.trans hx132_2)
                injection ea_ with ea_ en_ ec_
                subst ea_
                subst ec_
                clear en_
                go_wp2_with (first | ((with_reducible refine gate_callee (f := 58) rfl ?_); refine goesL_ (some 36) rfl rfl Try.func58 (by kernel_rfl) rfl #[.slice A130_2 ((rd_T29 l0 x5_1).f2).length c130_2, .int .i64 (wrap64 ((wrap64 (x1_1 + 1)) + 1))] rfl (by (try simp only [List.map_toArray, List.map_cons, List.map_nil]); first | done | rfl | (simp only [List.length_drop, List.length_take]; rfl)) ?_; (with_reducible refine (ih k1 (by have := HK1.out; omega) _ _ ((rd_T29 l0 x5_1).f2) (wrap64 ((wrap64 (x1_1 + 1)) + 1)) t133 _ ?side1 ?side2 A7.out).mono ?_); (case side1 => repeat (first | exact HR132_2.out | (with_reducible refine Kd.C_alloc ?_ _) | (with_reducible refine Kd.C_drewN ?_ _) | (with_reducible refine Kd.C_drew ?_))); (case side2 => exact HC132_2.out); rintro e w' ⟨rfl, ⟨nd, rfl⟩⟩; refine ⟨_, rfl, ?_⟩))
                go_ret
                exact ⟨by first | rfl | (simp; done) | (simp [*]; done), by repeat (first | exact Drawn0.refl _ | apply Drawn0.step)⟩
              · rw [if_neg c8] at H
                have c8b0 : decide (t133 < 0) = false := decide_eq_false c8
                clear c8
                have H' := Aside0.mk H
                clear H
                have p130 : 0 ≤ (x5_1 : Int) := of_decide_eq_true (by first | (with_reducible assumption) | assumption)
                have q130 : x5_1 < (l0.length : Int) := of_decide_eq_true (by first | (with_reducible assumption) | assumption)
                obtain ⟨ad130, A130_2, c130_2, e130, hx130_0, hx130_1, hx130_2, hl130_2, hi130_2⟩ := at_T29 HR0.out x5_1 p130 q130
                cases e130
                have HR130_2 := Aside0.mk hi130_2
                have HC130_2 := Aside0.mk hl130_2
                clear hi130_2 hl130_2
                replace p130 := eq_true p130
                replace q130 := eq_true q130
                have p131 : 0 ≤ (x5_1 : Int) := of_decide_eq_true (by first | (with_reducible assumption) | assumption)
                have q131 : x5_1 < (l0.length : Int) := of_decide_eq_true (by first | (with_reducible assumption) | assumption)
                obtain ⟨ad131, A131_2, c131_2, e131, hx131_0, hx131_1, hx131_2, hl131_2, hi131_2⟩ := at_T29 HR0.out x5_1 p131 q131
                obtain rfl : ad130 = ad131 := (by injection e131)
                have HR131_2 := Aside0.mk hi131_2
                have HC131_2 := Aside0.mk hl131_2
                clear hi131_2 hl131_2
                replace p131 := eq_true p131
                replace q131 := eq_true q131
                have ea_ := Option.some.inj (hx130_2.symm.trans hx131_2)
                injection ea_ with ea_ en_ ec_
                subst ea_
                subst ec_
                clear en_
                have p132 : 0 ≤ (x5_1 : Int) := of_decide_eq_true (by first | (with_reducible assumption) | assumption)
                have q132 : x5_1 < (l0.length : Int) := of_decide_eq_true (by first | (with_reducible assumption) | assumption)
                obtain ⟨ad132, A132_2, c132_2, e132, hx132_0, hx132_1, hx132_2, hl132_2, hi132_2⟩ := at_T29 HR0.out x5_1 p132 q132
                obtain rfl : ad130 = ad132 := (by injection e132)
                have HR132_2 := Aside0.mk hi132_2
                have HC132_2 := Aside0.mk hl132_2
                clear hi132_2 hl132_2
                replace p132 := eq_true p132
                replace q132 := eq_true q132
                have ea_ := Option.some.inj (hx130_2.symm.trans hx132_2)
                injection ea_ with ea_ en_ ec_
                subst ea_
                subst ec_
                clear en_
                go_wp2_with (first | ((with_reducible refine gate_callee (f := 58) rfl ?_); refine goesL_ (some 36) rfl rfl Try.func58 (by kernel_rfl) rfl #[.slice A130_2 ((rd_T29 l0 x5_1).f2).length c130_2, .int .i64 (wrap64 ((wrap64 (x1_1 + 1)) + 1))] rfl (by (try simp only [List.map_toArray, List.map_cons, List.map_nil]); first | done | rfl | (simp only [List.length_drop, List.length_take]; rfl)) ?_; (with_reducible refine (ih k1 (by have := HK1.out; omega) _ _ ((rd_T29 l0 x5_1).f2) (wrap64 ((wrap64 (x1_1 + 1)) + 1)) t133 _ ?side1 ?side2 A7.out).mono ?_); (case side1 => repeat (first | exact HR132_2.out | (with_reducible refine Kd.C_alloc ?_ _) | (with_reducible refine Kd.C_drewN ?_ _) | (with_reducible refine Kd.C_drew ?_))); (case side2 => exact HC132_2.out); rintro e w' ⟨rfl, ⟨nd, rfl⟩⟩; refine ⟨_, rfl, ?_⟩))
                go_roundg k1
                case measure => have := HK1.out; omega
                case rel => exact ⟨(t133), (wrap64 (x5_1 + 1)), (by first | rfl | (simp; done) | (simp [*]; done)), (by first | rfl | (simp; done) | (simp [*]; done)), H', ⟨by have := HK1.out; omega⟩, by repeat (first | exact Drawn0.refl _ | apply Drawn0.step)⟩
            · rw [if_neg c6] at H
              have c6b0 : (((rd_T29 l0 x5_1).f1) == (wrap64 (x1_1 + 1))) = false := beq_eq_false_iff_ne.mpr c6
              have c6b1 : (((rd_T29 l0 x5_1).f1) != (wrap64 (x1_1 + 1))) = true := bne_iff_ne.mpr c6
              obtain rfl := Option.some.inj H
              have p130 : 0 ≤ (x5_1 : Int) := of_decide_eq_true (by first | (with_reducible assumption) | assumption)
              have q130 : x5_1 < (l0.length : Int) := of_decide_eq_true (by first | (with_reducible assumption) | assumption)
              obtain ⟨ad130, A130_2, c130_2, e130, hx130_0, hx130_1, hx130_2, hl130_2, hi130_2⟩ := at_T29 HR0.out x5_1 p130 q130
              cases e130
              have HR130_2 := Aside0.mk hi130_2
              have HC130_2 := Aside0.mk hl130_2
              clear hi130_2 hl130_2
              replace p130 := eq_true p130
              replace q130 := eq_true q130
              have p131 : 0 ≤ (x5_1 : Int) := of_decide_eq_true (by first | (with_reducible assumption) | assumption)
              have q131 : x5_1 < (l0.length : Int) := of_decide_eq_true (by first | (with_reducible assumption) | assumption)
              obtain ⟨ad131, A131_2, c131_2, e131, hx131_0, hx131_1, hx131_2, hl131_2, hi131_2⟩ := at_T29 HR0.out x5_1 p131 q131
              obtain rfl : ad130 = ad131 := (by injection e131)
              have HR131_2 := Aside0.mk hi131_2
              have HC131_2 := Aside0.mk hl131_2
              clear hi131_2 hl131_2
              replace p131 := eq_true p131
              replace q131 := eq_true q131
              have ea_ := Option.some.inj (hx130_2.symm.trans hx131_2)
              injection ea_ with ea_ en_ ec_
              subst ea_
              subst ec_
              clear en_
              go_wp2
              go_ret
              exact ⟨by first | rfl | (simp; done) | (simp [*]; done), by repeat (first | exact Drawn0.refl _ | apply Drawn0.step)⟩
          · rw [if_neg c5] at H
            have c5b0 : (((rd_T29 l0 x5_1).f0) == x1_1) = false := beq_eq_false_iff_ne.mpr c5
            have c5b1 : (((rd_T29 l0 x5_1).f0) != x1_1) = true := bne_iff_ne.mpr c5
            obtain rfl := Option.some.inj H
            have p130 : 0 ≤ (x5_1 : Int) := of_decide_eq_true (by first | (with_reducible assumption) | assumption)
            have q130 : x5_1 < (l0.length : Int) := of_decide_eq_true (by first | (with_reducible assumption) | assumption)
            obtain ⟨ad130, A130_2, c130_2, e130, hx130_0, hx130_1, hx130_2, hl130_2, hi130_2⟩ := at_T29 HR0.out x5_1 p130 q130
            cases e130
            have HR130_2 := Aside0.mk hi130_2
            have HC130_2 := Aside0.mk hl130_2
            clear hi130_2 hl130_2
            replace p130 := eq_true p130
            replace q130 := eq_true q130
            go_wp2
            go_ret
            exact ⟨by first | rfl | (simp; done) | (simp [*]; done), by repeat (first | exact Drawn0.refl _ | apply Drawn0.step)⟩
        · rw [if_neg c4] at H
          exact absurd H (by simp)
      · rw [if_neg c3] at H
        have c3b0 : decide (x5_1 < (l0.length : Int)) = false := decide_eq_false c3
        clear c3
        obtain rfl := Option.some.inj H
        go_wp2
        go_ret
        exact ⟨by first | rfl | (simp; done) | (simp [*]; done), by repeat (first | exact Drawn0.refl _ | apply Drawn0.step)⟩

end Go.Proofs.Ytjnobnmjhpmpfaa.P

namespace Go.Proofs.Ytjnobnmjhpmpfaa.P
open Go.RowKit Go.Proofs.YtjnobnmjhpmpfaaW.PrintWords Go.Proofs.YtjnobnmjhpmpfaaW.PrintLast Go.Proofs.YtjnobnmjhpmpfaaW.PrintMore
attribute [local go_sem] max2_int min2_int max_two min_two max_three min_three max_four min_four
set_option linter.unusedVariables false
set_option linter.unusedSimpArgs false

/-! ### laws_heldGate: function 24 -/
def laws_heldGate.f (k : Nat) (a0_0 : Int) (a0_1 : Int) (l0_2 : List (S29)) (a1 : Int) : Option (Int) := (laws_heldGateS.f k l0_2 a1).bind fun t135 => (if t135 < 0 then (some (-1)) else (some t135))
set_option maxHeartbeats 8000000 in
set_option maxRecDepth 100000 in
theorem laws_heldGate.calls (k : Nat) (a0_0 : Int) (a0_1 : Int) (A0_2 : Option Addr) (c0_2 : Nat) (l0_2 : List (S29)) (a1 : Int) (r : Int) (w : World) (hr0_2 : Kd.C k29 w A0_2 l0_2.length l0_2) (hc0_2 : l0_2.length ≤ c0_2) (h : laws_heldGate.f k a0_0 a0_1 l0_2 a1 = some r) :
    Calls Try.prog 24 #[.agg #[.int .i64 a0_0, .int .i64 a0_1, .slice A0_2 l0_2.length c0_2], .int .i64 a1] w fun e w' => e = .returned (.int .i64 r) ∧ Below w.heap.size w w' := by
  have hu29 := Try.underlying29
  have HR0_2 := Aside0.mk hr0_2
  have HC0_2 := Aside0.mk hc0_2
  clear hr0_2 hc0_2
  have HB := Aside0.mk (Below.refl w.heap.size w)
  have H : ((laws_heldGateS.f k l0_2 a1).bind fun t135 => (if t135 < 0 then (some (-1)) else (some t135))) = some r := h
  clear h
  replace H := Option.bind_eq_some_iff.mp H
  obtain ⟨t135, A30, H⟩ := H
  replace H : (if t135 < 0 then (some (-1)) else (some t135)) = some r := H
  have A3 := Aside0.mk A30
  clear A30
  by_cases c4 : t135 < 0
  · rw [if_pos c4] at H
    have c4b0 : decide (t135 < 0) = true := decide_eq_true c4
    clear c4
    obtain rfl := Option.some.inj H
    go_enter Try.func24, Try.ntmps24
    go_wp2_with (first | ((with_reducible refine gate_dst (N := 2) rfl ?_); refine box_event ?hg (N := 2) ?hd (cs := #[.int .i64 a0_0, .int .i64 a0_1, .slice A0_2 l0_2.length c0_2]) (t := 29) ?hr ?_; (case hd => rfl); (case hg => rfl); (case hr => first | (go_simp; done) | (go_simp; rfl)); intro gb134 hg w5 hbox hb; have n0_ := Aside0.mk (below_step (by repeat (first | (with_reducible first | exact HB.out | apply below_alloc | apply pw_below_drewN | apply below_drew1) | exact HB.out)) hb); have n1_ := Aside0.mk (hbox); have n2_ := Aside0.mk ((by rw [hg]; exact (below_size (by repeat (first | (with_reducible first | exact HB.out | apply below_alloc | apply pw_below_drewN | apply below_drew1) | exact HB.out))) : w.heap.size ≤ gb134)); have n3_ := Aside0.mk ((by rw [hg]; exact (below_size (by repeat (first | (with_reducible first | exact HB.out | apply below_alloc | apply pw_below_drewN | apply below_drew1) | exact HB.out))) : w.heap.size ≤ gb134)); clear HB; have HB := n0_; have BK134 := n1_; have GW134 := n2_; have GE134 := n3_; clear n0_ n1_ n2_ n3_; clear hb hbox hg; have hcz6_0 : w5.cell? ⟨gb134, 0, none⟩ = some (.int .i64 a0_0) := (blk_cell BK134.out 0).trans rfl; have hcz6_1 : w5.cell? ⟨gb134, 1, none⟩ = some (.int .i64 a0_1) := (blk_cell BK134.out 1).trans rfl; have hcz6_2 : w5.cell? ⟨gb134, 2, none⟩ = some (.slice A0_2 l0_2.length c0_2) := (blk_cell BK134.out 2).trans rfl; have hfz6_0 := blk_frozen BK134.out 0; have hfz6_1 := blk_frozen BK134.out 1; have hfz6_2 := blk_frozen BK134.out 2) | ((with_reducible refine gate_callee (f := 58) rfl ?_); refine goesL_ (some 8) rfl rfl Try.func58 (by kernel_rfl) rfl #[.slice A0_2 l0_2.length c0_2, .int .i64 a1] rfl (by (try simp only [List.map_toArray, List.map_cons, List.map_nil]); first | done | rfl | (simp only [List.length_drop, List.length_take]; rfl)) ?_; (with_reducible refine (laws_heldGateS.calls k _ _ l0_2 a1 t135 _ ?side1 ?side2 A3.out).mono ?_); (case side1 => repeat (first | exact (Kd.C_below HR0_2.out HB.out) | (with_reducible refine Kd.C_alloc ?_ _) | (with_reducible refine Kd.C_drewN ?_ _) | (with_reducible refine Kd.C_drew ?_))); (case side2 => exact HC0_2.out); rintro e w' ⟨rfl, ⟨nd, rfl⟩⟩; refine ⟨_, rfl, ?_⟩))
    go_ret
    exact ⟨by first | rfl | (simp [errW_none, errW_some] <;> rfl) | (simp [*, errW_none, errW_some] <;> rfl), by repeat (first | (with_reducible first | exact HB.out | apply below_alloc | apply pw_below_drewN | apply below_drew1 | refine below_set ?_ GE134.out) | exact HB.out)⟩
  · rw [if_neg c4] at H
    have c4b0 : decide (t135 < 0) = false := decide_eq_false c4
    clear c4
    obtain rfl := Option.some.inj H
    go_enter Try.func24, Try.ntmps24
    go_wp2_with (first | ((with_reducible refine gate_dst (N := 2) rfl ?_); refine box_event ?hg (N := 2) ?hd (cs := #[.int .i64 a0_0, .int .i64 a0_1, .slice A0_2 l0_2.length c0_2]) (t := 29) ?hr ?_; (case hd => rfl); (case hg => rfl); (case hr => first | (go_simp; done) | (go_simp; rfl)); intro gb134 hg w7 hbox hb; have n0_ := Aside0.mk (below_step (by repeat (first | (with_reducible first | exact HB.out | apply below_alloc | apply pw_below_drewN | apply below_drew1) | exact HB.out)) hb); have n1_ := Aside0.mk (hbox); have n2_ := Aside0.mk ((by rw [hg]; exact (below_size (by repeat (first | (with_reducible first | exact HB.out | apply below_alloc | apply pw_below_drewN | apply below_drew1) | exact HB.out))) : w.heap.size ≤ gb134)); have n3_ := Aside0.mk ((by rw [hg]; exact (below_size (by repeat (first | (with_reducible first | exact HB.out | apply below_alloc | apply pw_below_drewN | apply below_drew1) | exact HB.out))) : w.heap.size ≤ gb134)); clear HB; have HB := n0_; have BK134 := n1_; have GW134 := n2_; have GE134 := n3_; clear n0_ n1_ n2_ n3_; clear hb hbox hg; have hcz8_0 : w7.cell? ⟨gb134, 0, none⟩ = some (.int .i64 a0_0) := (blk_cell BK134.out 0).trans rfl; have hcz8_1 : w7.cell? ⟨gb134, 1, none⟩ = some (.int .i64 a0_1) := (blk_cell BK134.out 1).trans rfl; have hcz8_2 : w7.cell? ⟨gb134, 2, none⟩ = some (.slice A0_2 l0_2.length c0_2) := (blk_cell BK134.out 2).trans rfl; have hfz8_0 := blk_frozen BK134.out 0; have hfz8_1 := blk_frozen BK134.out 1; have hfz8_2 := blk_frozen BK134.out 2) | ((with_reducible refine gate_callee (f := 58) rfl ?_); refine goesL_ (some 8) rfl rfl Try.func58 (by kernel_rfl) rfl #[.slice A0_2 l0_2.length c0_2, .int .i64 a1] rfl (by (try simp only [List.map_toArray, List.map_cons, List.map_nil]); first | done | rfl | (simp only [List.length_drop, List.length_take]; rfl)) ?_; (with_reducible refine (laws_heldGateS.calls k _ _ l0_2 a1 t135 _ ?side1 ?side2 A3.out).mono ?_); (case side1 => repeat (first | exact (Kd.C_below HR0_2.out HB.out) | (with_reducible refine Kd.C_alloc ?_ _) | (with_reducible refine Kd.C_drewN ?_ _) | (with_reducible refine Kd.C_drew ?_))); (case side2 => exact HC0_2.out); rintro e w' ⟨rfl, ⟨nd, rfl⟩⟩; refine ⟨_, rfl, ?_⟩))
    go_ret
    exact ⟨by first | rfl | (simp [errW_none, errW_some] <;> rfl) | (simp [*, errW_none, errW_some] <;> rfl), by repeat (first | (with_reducible first | exact HB.out | apply below_alloc | apply pw_below_drewN | apply below_drew1 | refine below_set ?_ GE134.out) | exact HB.out)⟩

end Go.Proofs.Ytjnobnmjhpmpfaa.P

namespace Go.Proofs.Ytjnobnmjhpmpfaa.P
open Go.RowKit Go.Proofs.YtjnobnmjhpmpfaaW.PrintWords Go.Proofs.YtjnobnmjhpmpfaaW.PrintLast Go.Proofs.YtjnobnmjhpmpfaaW.PrintMore
attribute [local go_sem] max2_int min2_int max_two min_two max_three min_three max_four min_four
set_option linter.unusedVariables false
set_option linter.unusedSimpArgs false

theorem add_zero (a : Addr) : a.add 0 = a := rfl
/-- What lies at a gate's address. -/
theorem gate_at {w : World} {a : Addr} {x : S29} (h : Kd.C k29 w (some a) 1 [x]) : ∃ A c, w.cell? a = some (.int .i64 x.f0) ∧ w.cell? ⟨a.block, a.off + 1, none⟩ = some (.int .i64 x.f1) ∧ w.cell? ⟨a.block, a.off + 2, none⟩ = some (.slice A x.f2.length c) ∧ x.f2.length ≤ c ∧ Kd.C k29 w A x.f2.length x.f2 := by
  obtain ⟨ad, A, c, e, h0, h1, h2, hl, hc⟩ := at_T29 h 0 (by omega) (by omega)
  injection e with e
  subst e
  exact ⟨A, c, h0, h1, h2, hl, hc⟩
/-- An element's address is a gate's address. -/
theorem gate_el {w : World} {ad : Addr} {n : Nat} {xs : List S29} (h : Kd.C k29 w (some ad) n xs) (i : Int) (h0 : 0 ≤ i) (h1 : i < n) : Kd.C k29 w (some (ad.add (i.toNat * 3))) 1 [rd_T29 xs i] := by
  obtain ⟨ad', c, e, hcl, hK, hc⟩ := Kd.C_get h z29 i h0 h1
  injection e with e
  subst e
  refine ⟨rfl, by omega, fun _ => ⟨_, rfl, fun j p hp => ?_⟩⟩
  rcases j with _ | j
  · obtain rfl := Option.some.inj hp
    refine ⟨c, hcl, hK, fun j u hu => ?_⟩
    have := hc j u hu
    rw [Addr.add_add]
    rwa [show (0 * k29.sz + j) = j by omega]
  · simp at hp
/-- A variable that holds a gate. -/
theorem gate_box {w : World} {g : Nat} {a b : Int} {A : Option Addr} {c : Nat} {l : List S29} (hb : w.heap[g]? = some (.cells #[.int .i64 a, .int .i64 b, .slice A l.length c] 29 (0, 0))) (hr : Kd.C k29 w A l.length l) (hc : l.length ≤ c) : Kd.C k29 w (some ⟨g, 0, none⟩) 1 [(⟨a, b, l⟩ : S29)] := by
  refine ⟨rfl, by omega, fun _ => ⟨_, rfl, fun j p hp => ?_⟩⟩
  rcases j with _ | j
  · obtain rfl := Option.some.inj hp
    refine ⟨[.int .i64 a, .int .i64 b, .slice A l.length c], rfl, k29_mk w ⟨a, b, l⟩ hc hr, fun j u hu => ?_⟩
    have := blk_cell hb j
    have e : (⟨g, 0, none⟩ : Addr).add (0 * k29.sz + j) = ⟨g, j, none⟩ := by
      rw [show (0 * k29.sz + j) = j by omega]
      unfold Addr.add
      split
      · rename_i h; rw [h]
      · simp
    rw [e, this, ← hu]
    simp
  · simp at hp

end Go.Proofs.Ytjnobnmjhpmpfaa.P

namespace Go.Proofs.Ytjnobnmjhpmpfaa.P
open Go.RowKit Go.Proofs.YtjnobnmjhpmpfaaW.PrintWords Go.Proofs.YtjnobnmjhpmpfaaW.PrintLast Go.Proofs.YtjnobnmjhpmpfaaW.PrintMore
attribute [local go_sem] max2_int min2_int max_two min_two max_three min_three max_four min_four
set_option linter.unusedVariables false
set_option linter.unusedSimpArgs false

/-! ### spec_l02Left: function 83 (by hand) -/
mutual
def spec_l02Left.l0 : Nat → S29 → Int → Int → Option Int
  | 0, _, _, _ => none
  | k + 1, x, n, i => if i < (x.f2.length : Int) then (if n ≥ 0 then (if 0 ≤ i then ((spec_l02Left.f k (rd_T29 x.f2 i) n).bind fun t => spec_l02Left.l0 k x t (wrap64 (i + 1))) else none) else some n) else some n
def spec_l02Left.f : Nat → S29 → Int → Option Int
  | 0, _, _ => none
  | k + 1, x, n => spec_l02Left.l0 k x (wrap64 (n - 1)) 0
end
set_option maxHeartbeats 8000000 in
set_option maxRecDepth 100000 in
theorem spec_l02Left.calls (k : Nat) : ∀ (ad : Addr) (x : S29) (a1 : Int) (r : Int) (w : World) (hp : Kd.C k29 w (some ad) 1 [x]) (h : spec_l02Left.f k x a1 = some r),
    Calls Try.prog 83 #[.pointer (some ad), .int .i64 a1] w fun e w' => e = .returned (.int .i64 r) ∧ Drawn0 w w' := by
  induction k using Nat.strongRecOn with
  | _ k ih =>
  intro ad x a1 r w hp h
  cases k with
  | zero => exact absurd h (by simp [spec_l02Left.f])
  | succ k =>
  simp only [spec_l02Left.f] at h
  obtain ⟨A, c, hx0, hx1, hx2, hl, hC⟩ := gate_at hp
  have HP := Aside0.mk hp
  have HC := Aside0.mk hC
  clear hp hC hl
  have H' := Aside0.mk h
  clear h
  go_enter Try.func83, Try.ntmps83
  go_wp2
  repeat (go_quiet (fail); try go_wp2)
  go_loopg [1, 5] k (fun kq v3 v4 w' => ∃ (n : Int) (i : Int), v3 = .int .i64 n ∧ v4 = .int .i64 i ∧ Aside0 (spec_l02Left.l0 kq x n i = some r) ∧ Aside0 (kq ≤ k) ∧ Drawn0 w w')
  case atStart => exact ⟨wrap64 (a1 - 1), 0, (by first | rfl | (simp; done)), rfl, H', ⟨Nat.le_refl _⟩, by repeat (first | exact Drawn0.refl _ | apply Drawn0.step)⟩
  case round =>
    clear H'
    obtain ⟨n, i, rfl, rfl, HA, HK, ⟨m1, rfl⟩⟩ := hrel
    cases gk with
    | zero => exact absurd HA.out (by simp [spec_l02Left.l0])
    | succ k1 =>
      have H := HA.out
      clear HA
      simp only [spec_l02Left.l0] at H
      by_cases c6 : i < (x.f2.length : Int)
      · rw [if_pos c6] at H
        have c6b0 : decide (i < (x.f2.length : Int)) = true := decide_eq_true c6
        by_cases c5 : n ≥ 0
        · rw [if_pos c5] at H
          have c5b0 : decide (n ≥ 0) = true := decide_eq_true c5
          have c5b1 : decide (0 ≤ n) = true := decide_eq_true c5
          clear c5
          by_cases c7 : 0 ≤ i
          · rw [if_pos c7] at H
            have c7b0 : decide (0 ≤ i) = true := decide_eq_true c7
            replace H := Option.bind_eq_some_iff.mp H
            obtain ⟨t, At, H⟩ := H
            have A7 := Aside0.mk At
            have H' := Aside0.mk H
            clear At H
            obtain ⟨ad2, A2, c2, e2, _⟩ := at_T29 HC.out i c7 c6
            cases e2
            have HE := Aside0.mk (gate_el HC.out i c7 c6)
            replace c7 := eq_true c7
            replace c6 := eq_true c6
            go_wp2_with (first | (go_at_call 83; (with_reducible refine (ih k1 (by have := HK.out; omega) _ (rd_T29 x.f2 i) n t _ ?side1 A7.out).mono ?_); (case side1 => repeat (first | exact HE.out | (with_reducible refine Kd.C_alloc ?_ _) | (with_reducible refine Kd.C_drewN ?_ _) | (with_reducible refine Kd.C_drew ?_))); rintro e w' ⟨rfl, ⟨nd, rfl⟩⟩; (try first | exact ⟨rfl, _, World.drewN_drewN _ _ _⟩ | exact ⟨rfl, _, Eq.trans (World.drewN_drewN _ _ _) (congrArg (World.drewN _) (Nat.add_assoc _ _ _))⟩)))
            repeat (go_quiet (first | (go_at_call 83; (with_reducible refine (ih k1 (by have := HK.out; omega) _ (rd_T29 x.f2 i) n t _ ?side1 A7.out).mono ?_); (case side1 => repeat (first | exact HE.out | (with_reducible refine Kd.C_alloc ?_ _) | (with_reducible refine Kd.C_drewN ?_ _) | (with_reducible refine Kd.C_drew ?_))); rintro e w' ⟨rfl, ⟨nd, rfl⟩⟩; (try first | exact ⟨rfl, _, World.drewN_drewN _ _ _⟩ | exact ⟨rfl, _, Eq.trans (World.drewN_drewN _ _ _) (congrArg (World.drewN _) (Nat.add_assoc _ _ _))⟩))); try go_wp2_with (first | (go_at_call 83; (with_reducible refine (ih k1 (by have := HK.out; omega) _ (rd_T29 x.f2 i) n t _ ?side1 A7.out).mono ?_); (case side1 => repeat (first | exact HE.out | (with_reducible refine Kd.C_alloc ?_ _) | (with_reducible refine Kd.C_drewN ?_ _) | (with_reducible refine Kd.C_drew ?_))); rintro e w' ⟨rfl, ⟨nd, rfl⟩⟩; (try first | exact ⟨rfl, _, World.drewN_drewN _ _ _⟩ | exact ⟨rfl, _, Eq.trans (World.drewN_drewN _ _ _) (congrArg (World.drewN _) (Nat.add_assoc _ _ _))⟩))))
            go_roundg k1
            case measure => have := HK.out; omega
            case rel => exact ⟨_, _, rfl, (by first | rfl | (simp; done)), H', ⟨by have := HK.out; omega⟩, by repeat (first | exact Drawn0.refl _ | apply Drawn0.step)⟩
          · rw [if_neg c7] at H
            exact absurd H (by simp)
        · rw [if_neg c5] at H
          have c5b0 : decide (n ≥ 0) = false := decide_eq_false c5
          have c5b1 : decide (0 ≤ n) = false := decide_eq_false c5
          clear c5
          obtain rfl := Option.some.inj H
          go_wp2
          repeat (go_quiet (fail); try go_wp2)
          go_ret
          exact ⟨rfl, by repeat (first | exact Drawn0.refl _ | apply Drawn0.step)⟩
      · rw [if_neg c6] at H
        have c6b0 : decide (i < (x.f2.length : Int)) = false := decide_eq_false c6
        clear c6
        obtain rfl := Option.some.inj H
        go_wp2
        repeat (go_quiet (fail); try go_wp2)
        go_ret
        exact ⟨rfl, by repeat (first | exact Drawn0.refl _ | apply Drawn0.step)⟩

end Go.Proofs.Ytjnobnmjhpmpfaa.P

namespace Go.Proofs.Ytjnobnmjhpmpfaa.P
open Go.RowKit Go.Proofs.YtjnobnmjhpmpfaaW.PrintWords Go.Proofs.YtjnobnmjhpmpfaaW.PrintLast Go.Proofs.YtjnobnmjhpmpfaaW.PrintMore
attribute [local go_sem] max2_int min2_int max_two min_two max_three min_three max_four min_four
set_option linter.unusedVariables false
set_option linter.unusedSimpArgs false

/-! ### spec_l00Max: function 99 -/
def spec_l00Max.f (a0 : Int) (a1 : Int) : Option (Int) := if a0 > a1 then (some a0) else (some a1)
set_option maxHeartbeats 8000000 in
set_option maxRecDepth 100000 in
theorem spec_l00Max.calls (a0 : Int) (a1 : Int) (r : Int) (w : World) (h : spec_l00Max.f a0 a1 = some r) :
    Calls Try.prog 99 #[.int .i64 a0, .int .i64 a1] w fun e w' => e = .returned (.int .i64 r) ∧ Drawn0 w w' := by
  have H : (if a0 > a1 then (some a0) else (some a1)) = some r := h
  clear h
  by_cases c3 : a0 > a1
  · rw [if_pos c3] at H
    have c3b0 : decide (a1 < a0) = true := decide_eq_true c3
    clear c3
    obtain rfl := Option.some.inj H
    go_enter Try.func99, Try.ntmps99
    go_wp2
    go_ret
    exact ⟨by first | rfl | (simp; done) | (simp [*]; done), by repeat (first | exact Drawn0.refl _ | apply Drawn0.step)⟩
  · rw [if_neg c3] at H
    have c3b0 : decide (a1 < a0) = false := decide_eq_false c3
    clear c3
    obtain rfl := Option.some.inj H
    go_enter Try.func99, Try.ntmps99
    go_wp2
    go_ret
    exact ⟨by first | rfl | (simp; done) | (simp [*]; done), by repeat (first | exact Drawn0.refl _ | apply Drawn0.step)⟩

end Go.Proofs.Ytjnobnmjhpmpfaa.P

namespace Go.Proofs.Ytjnobnmjhpmpfaa.P
open Go.RowKit Go.Proofs.YtjnobnmjhpmpfaaW.PrintWords Go.Proofs.YtjnobnmjhpmpfaaW.PrintLast Go.Proofs.YtjnobnmjhpmpfaaW.PrintMore
attribute [local go_sem] max2_int min2_int max_two min_two max_three min_three max_four min_four
set_option linter.unusedVariables false
set_option linter.unusedSimpArgs false

/-! ### spec_l02Depth: function 84 (by hand) -/
mutual
def spec_l02Depth.l0 : Nat → S29 → Int → Int → Option Int
  | 0, _, _, _ => none
  | k + 1, x, n, i => if i < (x.f2.length : Int) then (if 0 ≤ i then ((spec_l02Depth.f k (rd_T29 x.f2 i)).bind fun t => (spec_l00Max.f n t).bind fun u => spec_l02Depth.l0 k x u (wrap64 (i + 1))) else none) else some (wrap64 (n + 1))
def spec_l02Depth.f : Nat → S29 → Option Int
  | 0, _ => none
  | k + 1, x => spec_l02Depth.l0 k x 0 0
end
set_option maxHeartbeats 8000000 in
set_option maxRecDepth 100000 in
theorem spec_l02Depth.calls (k : Nat) : ∀ (ad : Addr) (x : S29) (r : Int) (w : World) (hp : Kd.C k29 w (some ad) 1 [x]) (h : spec_l02Depth.f k x = some r),
    Calls Try.prog 84 #[.pointer (some ad)] w fun e w' => e = .returned (.int .i64 r) ∧ Drawn0 w w' := by
  induction k using Nat.strongRecOn with
  | _ k ih =>
  intro ad x r w hp h
  cases k with
  | zero => exact absurd h (by simp [spec_l02Depth.f])
  | succ k =>
  simp only [spec_l02Depth.f] at h
  obtain ⟨A, c, hx0, hx1, hx2, hl, hC⟩ := gate_at hp
  have HP := Aside0.mk hp
  have HC := Aside0.mk hC
  clear hp hC hl
  have H' := Aside0.mk h
  clear h
  go_enter Try.func84, Try.ntmps84
  go_wp2
  repeat (go_quiet (fail); try go_wp2)
  go_loopg [3, 4] k (fun kq v3 v4 w' => ∃ (n : Int) (i : Int), v3 = .int .i64 n ∧ v4 = .int .i64 i ∧ Aside0 (spec_l02Depth.l0 kq x n i = some r) ∧ Aside0 (kq ≤ k) ∧ Drawn0 w w')
  case atStart => exact ⟨0, 0, rfl, rfl, H', ⟨Nat.le_refl _⟩, by repeat (first | exact Drawn0.refl _ | apply Drawn0.step)⟩
  case round =>
    clear H'
    obtain ⟨n, i, rfl, rfl, HA, HK, ⟨m1, rfl⟩⟩ := hrel
    cases gk with
    | zero => exact absurd HA.out (by simp [spec_l02Depth.l0])
    | succ k1 =>
      have H := HA.out
      clear HA
      simp only [spec_l02Depth.l0] at H
      by_cases c6 : i < (x.f2.length : Int)
      · rw [if_pos c6] at H
        have c6b0 : decide (i < (x.f2.length : Int)) = true := decide_eq_true c6
        by_cases c7 : 0 ≤ i
        · rw [if_pos c7] at H
          have c7b0 : decide (0 ≤ i) = true := decide_eq_true c7
          replace H := Option.bind_eq_some_iff.mp H
          obtain ⟨t, At, H⟩ := H
          replace H := Option.bind_eq_some_iff.mp H
          obtain ⟨u, Au, H⟩ := H
          have A7 := Aside0.mk At
          have A8 := Aside0.mk Au
          have H' := Aside0.mk H
          clear At Au H
          obtain ⟨ad2, A2, c2, e2, _⟩ := at_T29 HC.out i c7 c6
          cases e2
          have HE := Aside0.mk (gate_el HC.out i c7 c6)
          replace c7 := eq_true c7
          replace c6 := eq_true c6
          go_wp2_with (first | (go_at_call 84; (with_reducible refine (ih k1 (by have := HK.out; omega) _ (rd_T29 x.f2 i) t _ ?side1 A7.out).mono ?_); (case side1 => repeat (first | exact HE.out | (with_reducible refine Kd.C_alloc ?_ _) | (with_reducible refine Kd.C_drewN ?_ _) | (with_reducible refine Kd.C_drew ?_))); rintro e w' ⟨rfl, ⟨nd, rfl⟩⟩; (try first | exact ⟨rfl, _, World.drewN_drewN _ _ _⟩ | exact ⟨rfl, _, Eq.trans (World.drewN_drewN _ _ _) (congrArg (World.drewN _) (Nat.add_assoc _ _ _))⟩)) | (go_at_call 99; (with_reducible refine (spec_l00Max.calls n t u _ A8.out).mono ?_); rintro e w' ⟨rfl, ⟨nd, rfl⟩⟩; (try first | exact ⟨rfl, _, World.drewN_drewN _ _ _⟩ | exact ⟨rfl, _, Eq.trans (World.drewN_drewN _ _ _) (congrArg (World.drewN _) (Nat.add_assoc _ _ _))⟩)))
          repeat (go_quiet (first | (go_at_call 84; (with_reducible refine (ih k1 (by have := HK.out; omega) _ (rd_T29 x.f2 i) t _ ?side1 A7.out).mono ?_); (case side1 => repeat (first | exact HE.out | (with_reducible refine Kd.C_alloc ?_ _) | (with_reducible refine Kd.C_drewN ?_ _) | (with_reducible refine Kd.C_drew ?_))); rintro e w' ⟨rfl, ⟨nd, rfl⟩⟩; (try first | exact ⟨rfl, _, World.drewN_drewN _ _ _⟩ | exact ⟨rfl, _, Eq.trans (World.drewN_drewN _ _ _) (congrArg (World.drewN _) (Nat.add_assoc _ _ _))⟩)) | (go_at_call 99; (with_reducible refine (spec_l00Max.calls n t u _ A8.out).mono ?_); rintro e w' ⟨rfl, ⟨nd, rfl⟩⟩; (try first | exact ⟨rfl, _, World.drewN_drewN _ _ _⟩ | exact ⟨rfl, _, Eq.trans (World.drewN_drewN _ _ _) (congrArg (World.drewN _) (Nat.add_assoc _ _ _))⟩))); try go_wp2_with (first | (go_at_call 84; (with_reducible refine (ih k1 (by have := HK.out; omega) _ (rd_T29 x.f2 i) t _ ?side1 A7.out).mono ?_); (case side1 => repeat (first | exact HE.out | (with_reducible refine Kd.C_alloc ?_ _) | (with_reducible refine Kd.C_drewN ?_ _) | (with_reducible refine Kd.C_drew ?_))); rintro e w' ⟨rfl, ⟨nd, rfl⟩⟩; (try first | exact ⟨rfl, _, World.drewN_drewN _ _ _⟩ | exact ⟨rfl, _, Eq.trans (World.drewN_drewN _ _ _) (congrArg (World.drewN _) (Nat.add_assoc _ _ _))⟩)) | (go_at_call 99; (with_reducible refine (spec_l00Max.calls n t u _ A8.out).mono ?_); rintro e w' ⟨rfl, ⟨nd, rfl⟩⟩; (try first | exact ⟨rfl, _, World.drewN_drewN _ _ _⟩ | exact ⟨rfl, _, Eq.trans (World.drewN_drewN _ _ _) (congrArg (World.drewN _) (Nat.add_assoc _ _ _))⟩))))
          go_roundg k1
          case measure => have := HK.out; omega
          case rel => exact ⟨_, _, rfl, (by first | rfl | (simp; done)), H', ⟨by have := HK.out; omega⟩, by repeat (first | exact Drawn0.refl _ | apply Drawn0.step)⟩
        · rw [if_neg c7] at H
          exact absurd H (by simp)
      · rw [if_neg c6] at H
        have c6b0 : decide (i < (x.f2.length : Int)) = false := decide_eq_false c6
        clear c6
        obtain rfl := Option.some.inj H
        go_wp2
        repeat (go_quiet (fail); try go_wp2)
        go_ret
        exact ⟨(by first | rfl | (simp; done)), by repeat (first | exact Drawn0.refl _ | apply Drawn0.step)⟩

end Go.Proofs.Ytjnobnmjhpmpfaa.P

namespace Go.Proofs.Ytjnobnmjhpmpfaa.P
open Go.RowKit Go.Proofs.YtjnobnmjhpmpfaaW.PrintWords Go.Proofs.YtjnobnmjhpmpfaaW.PrintLast Go.Proofs.YtjnobnmjhpmpfaaW.PrintMore
attribute [local go_sem] max2_int min2_int max_two min_two max_three min_three max_four min_four
set_option linter.unusedVariables false
set_option linter.unusedSimpArgs false

/-! ### spec_l02Form: function 85 (by hand) -/
mutual
def spec_l02Form.l0 : Nat → Int → S29 → Int → Option Bool
  | 0, _, _, _ => none
  | k + 1, h, x, i => if i < (x.f2.length : Int) then (if 0 ≤ i then ((spec_l02Form.f k h (rd_T29 x.f2 i)).bind fun t => if t = true then spec_l02Form.l0 k h x (wrap64 (i + 1)) else some false) else none) else (if x.f0 = -1 then spec_l00In.f x.f1 1 (x.f2.length : Int) else some false)
def spec_l02Form.f : Nat → Int → S29 → Option Bool
  | 0, _, _ => none
  | k + 1, h, x => if (x.f2.length : Int) = 0 then (if x.f1 = 0 then spec_l00In.f x.f0 0 (wrap64 (h - 1)) else some false) else spec_l02Form.l0 k h x 0
end
set_option maxHeartbeats 8000000 in
set_option maxRecDepth 100000 in
theorem spec_l02Form.calls (k : Nat) : ∀ (a0 : Int) (ad : Addr) (x : S29) (r : Bool) (w : World) (hp : Kd.C k29 w (some ad) 1 [x]) (h : spec_l02Form.f k a0 x = some r),
    Calls Try.prog 85 #[.int .i64 a0, .pointer (some ad)] w fun e w' => e = .returned (.bool r) ∧ Drawn0 w w' := by
  induction k using Nat.strongRecOn with
  | _ k ih =>
  intro a0 ad x r w hp h
  cases k with
  | zero => exact absurd h (by simp [spec_l02Form.f])
  | succ k =>
  simp only [spec_l02Form.f] at h
  obtain ⟨A, c, hx0, hx1, hx2, hl, hC⟩ := gate_at hp
  have HP := Aside0.mk hp
  have HC := Aside0.mk hC
  clear hp hC hl
  by_cases c1 : (x.f2.length : Int) = 0
  · rw [if_pos c1] at h
    have c1b0 : (((x.f2.length : Int) : Int) == 0) = true := beq_iff_eq.mpr c1
    have c1b1 : (((x.f2.length : Int) : Int) != 0) = false := bne_eq_false_iff_eq.mpr c1
    have c1b2 : (x.f2.length == 0) = true := by first | simpa using c1 | (simp at c1 ⊢; omega)
    have c1b3 : x.f2.isEmpty = true := by first | simpa using c1 | (simp at c1 ⊢; omega)
    clear c1
    by_cases c2 : x.f1 = 0
    · rw [if_pos c2] at h
      have c2b0 : ((x.f1 : Int) == 0) = true := beq_iff_eq.mpr c2
      have c2b1 : ((x.f1 : Int) != 0) = false := bne_eq_false_iff_eq.mpr c2
      clear c2
      have A5 := Aside0.mk h
      clear h
      go_enter Try.func85, Try.ntmps85
      go_wp2_with (first | (go_at_call 61; (with_reducible refine (spec_l00In.calls x.f0 0 (wrap64 (a0 - 1)) r _ A5.out).mono ?_); rintro e w' ⟨rfl, ⟨nd, rfl⟩⟩; (try first | exact ⟨rfl, _, World.drewN_drewN _ _ _⟩ | exact ⟨rfl, _, Eq.trans (World.drewN_drewN _ _ _) (congrArg (World.drewN _) (Nat.add_assoc _ _ _))⟩)))
      repeat (go_quiet (first | (go_at_call 61; (with_reducible refine (spec_l00In.calls x.f0 0 (wrap64 (a0 - 1)) r _ A5.out).mono ?_); rintro e w' ⟨rfl, ⟨nd, rfl⟩⟩; (try first | exact ⟨rfl, _, World.drewN_drewN _ _ _⟩ | exact ⟨rfl, _, Eq.trans (World.drewN_drewN _ _ _) (congrArg (World.drewN _) (Nat.add_assoc _ _ _))⟩))); try go_wp2_with (first | (go_at_call 61; (with_reducible refine (spec_l00In.calls x.f0 0 (wrap64 (a0 - 1)) r _ A5.out).mono ?_); rintro e w' ⟨rfl, ⟨nd, rfl⟩⟩; (try first | exact ⟨rfl, _, World.drewN_drewN _ _ _⟩ | exact ⟨rfl, _, Eq.trans (World.drewN_drewN _ _ _) (congrArg (World.drewN _) (Nat.add_assoc _ _ _))⟩))))
      go_ret
      exact ⟨(by first | rfl | (simp; done) | (simp [*]; done)), by repeat (first | exact Drawn0.refl _ | apply Drawn0.step)⟩
    · rw [if_neg c2] at h
      have c2b0 : ((x.f1 : Int) == 0) = false := beq_eq_false_iff_ne.mpr c2
      have c2b1 : ((x.f1 : Int) != 0) = true := bne_iff_ne.mpr c2
      clear c2
      obtain rfl := Option.some.inj h
      clear h
      go_enter Try.func85, Try.ntmps85
      go_wp2
      repeat (go_quiet (fail); try go_wp2)
      go_ret
      exact ⟨(by first | rfl | (simp; done) | (simp [*]; done)), by repeat (first | exact Drawn0.refl _ | apply Drawn0.step)⟩
  · rw [if_neg c1] at h
    have c1b0 : (((x.f2.length : Int) : Int) == 0) = false := beq_eq_false_iff_ne.mpr c1
    have c1b1 : (((x.f2.length : Int) : Int) != 0) = true := bne_iff_ne.mpr c1
    have c1b2 : (x.f2.length == 0) = false := by first | simpa using c1 | (simp at c1 ⊢; omega)
    have c1b3 : x.f2.isEmpty = false := by first | simpa using c1 | (simp at c1 ⊢; omega)
    clear c1
    have H' := Aside0.mk h
    clear h
    go_enter Try.func85, Try.ntmps85
    go_wp2
    repeat (go_quiet (fail); try go_wp2)
    go_loopg [5] k (fun kq v4 w' => ∃ (i : Int), v4 = .int .i64 i ∧ Aside0 (spec_l02Form.l0 kq a0 x i = some r) ∧ Aside0 (kq ≤ k) ∧ Drawn0 w w')
    case atStart => exact ⟨0, rfl, H', ⟨Nat.le_refl _⟩, by repeat (first | exact Drawn0.refl _ | apply Drawn0.step)⟩
    case round =>
      clear H'
      obtain ⟨i, rfl, HA, HK, ⟨m1, rfl⟩⟩ := hrel
      cases gk with
      | zero => exact absurd HA.out (by simp [spec_l02Form.l0])
      | succ k1 =>
        have H := HA.out
        clear HA
        simp only [spec_l02Form.l0] at H
        by_cases c6 : i < (x.f2.length : Int)
        · rw [if_pos c6] at H
          have c6b0 : decide (i < (x.f2.length : Int)) = true := decide_eq_true c6
          by_cases c7 : 0 ≤ i
          · rw [if_pos c7] at H
            have c7b0 : decide (0 ≤ i) = true := decide_eq_true c7
            replace H := Option.bind_eq_some_iff.mp H
            obtain ⟨t, At, H⟩ := H
            have A7 := Aside0.mk At
            clear At
            obtain ⟨ad2, A2, c2, e2, _⟩ := at_T29 HC.out i c7 c6
            cases e2
            have HE := Aside0.mk (gate_el HC.out i c7 c6)
            replace c7 := eq_true c7
            replace c6 := eq_true c6
            cases t with
            | true =>
              rw [if_pos rfl] at H
              have H' := Aside0.mk H
              clear H
              go_wp2_with (first | (go_at_call 85; (with_reducible refine (ih k1 (by have := HK.out; omega) a0 _ (rd_T29 x.f2 i) true _ ?side1 A7.out).mono ?_); (case side1 => repeat (first | exact HE.out | (with_reducible refine Kd.C_alloc ?_ _) | (with_reducible refine Kd.C_drewN ?_ _) | (with_reducible refine Kd.C_drew ?_))); rintro e w' ⟨rfl, ⟨nd, rfl⟩⟩; (try first | exact ⟨rfl, _, World.drewN_drewN _ _ _⟩ | exact ⟨rfl, _, Eq.trans (World.drewN_drewN _ _ _) (congrArg (World.drewN _) (Nat.add_assoc _ _ _))⟩)))
              repeat (go_quiet (first | (go_at_call 85; (with_reducible refine (ih k1 (by have := HK.out; omega) a0 _ (rd_T29 x.f2 i) true _ ?side1 A7.out).mono ?_); (case side1 => repeat (first | exact HE.out | (with_reducible refine Kd.C_alloc ?_ _) | (with_reducible refine Kd.C_drewN ?_ _) | (with_reducible refine Kd.C_drew ?_))); rintro e w' ⟨rfl, ⟨nd, rfl⟩⟩; (try first | exact ⟨rfl, _, World.drewN_drewN _ _ _⟩ | exact ⟨rfl, _, Eq.trans (World.drewN_drewN _ _ _) (congrArg (World.drewN _) (Nat.add_assoc _ _ _))⟩))); try go_wp2_with (first | (go_at_call 85; (with_reducible refine (ih k1 (by have := HK.out; omega) a0 _ (rd_T29 x.f2 i) true _ ?side1 A7.out).mono ?_); (case side1 => repeat (first | exact HE.out | (with_reducible refine Kd.C_alloc ?_ _) | (with_reducible refine Kd.C_drewN ?_ _) | (with_reducible refine Kd.C_drew ?_))); rintro e w' ⟨rfl, ⟨nd, rfl⟩⟩; (try first | exact ⟨rfl, _, World.drewN_drewN _ _ _⟩ | exact ⟨rfl, _, Eq.trans (World.drewN_drewN _ _ _) (congrArg (World.drewN _) (Nat.add_assoc _ _ _))⟩))))
              go_roundg k1
              case measure => have := HK.out; omega
              case rel => exact ⟨_, (by first | rfl | (simp; done)), H', ⟨by have := HK.out; omega⟩, by repeat (first | exact Drawn0.refl _ | apply Drawn0.step)⟩
            | false =>
              rw [if_neg (by decide)] at H
              obtain rfl := Option.some.inj H
              clear H
              go_wp2_with (first | (go_at_call 85; (with_reducible refine (ih k1 (by have := HK.out; omega) a0 _ (rd_T29 x.f2 i) false _ ?side1 A7.out).mono ?_); (case side1 => repeat (first | exact HE.out | (with_reducible refine Kd.C_alloc ?_ _) | (with_reducible refine Kd.C_drewN ?_ _) | (with_reducible refine Kd.C_drew ?_))); rintro e w' ⟨rfl, ⟨nd, rfl⟩⟩; (try first | exact ⟨rfl, _, World.drewN_drewN _ _ _⟩ | exact ⟨rfl, _, Eq.trans (World.drewN_drewN _ _ _) (congrArg (World.drewN _) (Nat.add_assoc _ _ _))⟩)))
              repeat (go_quiet (first | (go_at_call 85; (with_reducible refine (ih k1 (by have := HK.out; omega) a0 _ (rd_T29 x.f2 i) false _ ?side1 A7.out).mono ?_); (case side1 => repeat (first | exact HE.out | (with_reducible refine Kd.C_alloc ?_ _) | (with_reducible refine Kd.C_drewN ?_ _) | (with_reducible refine Kd.C_drew ?_))); rintro e w' ⟨rfl, ⟨nd, rfl⟩⟩; (try first | exact ⟨rfl, _, World.drewN_drewN _ _ _⟩ | exact ⟨rfl, _, Eq.trans (World.drewN_drewN _ _ _) (congrArg (World.drewN _) (Nat.add_assoc _ _ _))⟩))); try go_wp2_with (first | (go_at_call 85; (with_reducible refine (ih k1 (by have := HK.out; omega) a0 _ (rd_T29 x.f2 i) false _ ?side1 A7.out).mono ?_); (case side1 => repeat (first | exact HE.out | (with_reducible refine Kd.C_alloc ?_ _) | (with_reducible refine Kd.C_drewN ?_ _) | (with_reducible refine Kd.C_drew ?_))); rintro e w' ⟨rfl, ⟨nd, rfl⟩⟩; (try first | exact ⟨rfl, _, World.drewN_drewN _ _ _⟩ | exact ⟨rfl, _, Eq.trans (World.drewN_drewN _ _ _) (congrArg (World.drewN _) (Nat.add_assoc _ _ _))⟩))))
              go_ret
              exact ⟨(by first | rfl | (simp; done) | (simp [*]; done)), by repeat (first | exact Drawn0.refl _ | apply Drawn0.step)⟩
          · rw [if_neg c7] at H
            exact absurd H (by simp)
        · rw [if_neg c6] at H
          have c6b0 : decide (i < (x.f2.length : Int)) = false := decide_eq_false c6
          clear c6
          by_cases c2 : x.f0 = -1
          · rw [if_pos c2] at H
            have c2b0 : ((x.f0 : Int) == -1) = true := beq_iff_eq.mpr c2
            have c2b1 : ((x.f0 : Int) != -1) = false := bne_eq_false_iff_eq.mpr c2
            clear c2
            have A5 := Aside0.mk H
            clear H
            go_wp2_with (first | (go_at_call 61; (with_reducible refine (spec_l00In.calls x.f1 1 (x.f2.length : Int) r _ A5.out).mono ?_); rintro e w' ⟨rfl, ⟨nd, rfl⟩⟩; (try first | exact ⟨rfl, _, World.drewN_drewN _ _ _⟩ | exact ⟨rfl, _, Eq.trans (World.drewN_drewN _ _ _) (congrArg (World.drewN _) (Nat.add_assoc _ _ _))⟩)))
            repeat (go_quiet (first | (go_at_call 61; (with_reducible refine (spec_l00In.calls x.f1 1 (x.f2.length : Int) r _ A5.out).mono ?_); rintro e w' ⟨rfl, ⟨nd, rfl⟩⟩; (try first | exact ⟨rfl, _, World.drewN_drewN _ _ _⟩ | exact ⟨rfl, _, Eq.trans (World.drewN_drewN _ _ _) (congrArg (World.drewN _) (Nat.add_assoc _ _ _))⟩))); try go_wp2_with (first | (go_at_call 61; (with_reducible refine (spec_l00In.calls x.f1 1 (x.f2.length : Int) r _ A5.out).mono ?_); rintro e w' ⟨rfl, ⟨nd, rfl⟩⟩; (try first | exact ⟨rfl, _, World.drewN_drewN _ _ _⟩ | exact ⟨rfl, _, Eq.trans (World.drewN_drewN _ _ _) (congrArg (World.drewN _) (Nat.add_assoc _ _ _))⟩))))
            go_ret
            exact ⟨(by first | rfl | (simp; done) | (simp [*]; done)), by repeat (first | exact Drawn0.refl _ | apply Drawn0.step)⟩
          · rw [if_neg c2] at H
            have c2b0 : ((x.f0 : Int) == -1) = false := beq_eq_false_iff_ne.mpr c2
            have c2b1 : ((x.f0 : Int) != -1) = true := bne_iff_ne.mpr c2
            clear c2
            obtain rfl := Option.some.inj H
            clear H
            go_wp2
            repeat (go_quiet (fail); try go_wp2)
            go_ret
            exact ⟨(by first | rfl | (simp; done) | (simp [*]; done)), by repeat (first | exact Drawn0.refl _ | apply Drawn0.step)⟩

end Go.Proofs.Ytjnobnmjhpmpfaa.P

namespace Go.Proofs.Ytjnobnmjhpmpfaa.P
open Go.RowKit Go.Proofs.YtjnobnmjhpmpfaaW.PrintWords Go.Proofs.YtjnobnmjhpmpfaaW.PrintLast Go.Proofs.YtjnobnmjhpmpfaaW.PrintMore
attribute [local go_sem] max2_int min2_int max_two min_two max_three min_three max_four min_four
set_option linter.unusedVariables false
set_option linter.unusedSimpArgs false

/-! ### spec_l02Ok: function 49 (by hand) -/
def spec_l02Ok.f (k : Nat) (h : Int) (x : S29) : Option Bool := (spec_l00In.f h 1 7).bind fun t => if t = true then ((spec_l02Left.f k x 60).bind fun u => if u ≥ 0 then ((spec_l02Depth.f k x).bind fun v => if v ≤ 12 then spec_l02Form.f k h x else some false) else some false) else some false
set_option maxHeartbeats 8000000 in
set_option maxRecDepth 100000 in
theorem spec_l02Ok.calls (k : Nat) (a0 : Int) (ad : Addr) (x : S29) (r : Bool) (w : World) (hp : Kd.C k29 w (some ad) 1 [x]) (h : spec_l02Ok.f k a0 x = some r) :
    Calls Try.prog 49 #[.int .i64 a0, .pointer (some ad)] w fun e w' => e = .returned (.bool r) ∧ Drawn0 w w' := by
  have HP := Aside0.mk hp
  clear hp
  unfold spec_l02Ok.f at h
  replace h := Option.bind_eq_some_iff.mp h
  obtain ⟨t, At, h⟩ := h
  have A1 := Aside0.mk At
  clear At
  cases t with
  | false =>
    rw [if_neg (by decide)] at h
    obtain rfl := Option.some.inj h
    clear h
    go_enter Try.func49, Try.ntmps49
    go_wp2_with (first | (go_at_call 61; (with_reducible refine (spec_l00In.calls a0 1 7 false _ A1.out).mono ?_); rintro e w' ⟨rfl, ⟨nd, rfl⟩⟩; (try first | exact ⟨rfl, _, World.drewN_drewN _ _ _⟩ | exact ⟨rfl, _, Eq.trans (World.drewN_drewN _ _ _) (congrArg (World.drewN _) (Nat.add_assoc _ _ _))⟩)))
    repeat (go_quiet (first | (go_at_call 61; (with_reducible refine (spec_l00In.calls a0 1 7 false _ A1.out).mono ?_); rintro e w' ⟨rfl, ⟨nd, rfl⟩⟩; (try first | exact ⟨rfl, _, World.drewN_drewN _ _ _⟩ | exact ⟨rfl, _, Eq.trans (World.drewN_drewN _ _ _) (congrArg (World.drewN _) (Nat.add_assoc _ _ _))⟩))); try go_wp2_with (first | (go_at_call 61; (with_reducible refine (spec_l00In.calls a0 1 7 false _ A1.out).mono ?_); rintro e w' ⟨rfl, ⟨nd, rfl⟩⟩; (try first | exact ⟨rfl, _, World.drewN_drewN _ _ _⟩ | exact ⟨rfl, _, Eq.trans (World.drewN_drewN _ _ _) (congrArg (World.drewN _) (Nat.add_assoc _ _ _))⟩))))
    go_ret
    exact ⟨(by first | rfl | (simp; done) | (simp [*]; done)), by repeat (first | exact Drawn0.refl _ | apply Drawn0.step)⟩
  | true =>
    rw [if_pos rfl] at h
    replace h := Option.bind_eq_some_iff.mp h
    obtain ⟨u, Au, h⟩ := h
    have A2 := Aside0.mk Au
    clear Au
    by_cases c1 : u ≥ 0
    · rw [if_pos c1] at h
      have c1b0 : decide (u ≥ 0) = true := decide_eq_true c1
      have c1b1 : decide (0 ≤ u) = true := decide_eq_true c1
      clear c1
      replace h := Option.bind_eq_some_iff.mp h
      obtain ⟨v, Av, h⟩ := h
      have A3 := Aside0.mk Av
      clear Av
      by_cases c2 : v ≤ 12
      · rw [if_pos c2] at h
        have c2b0 : decide (v ≤ 12) = true := decide_eq_true c2
        clear c2
        have A4 := Aside0.mk h
        clear h
        go_enter Try.func49, Try.ntmps49
        go_wp2_with (first | (go_at_call 61; (with_reducible refine (spec_l00In.calls a0 1 7 true _ A1.out).mono ?_); rintro e w' ⟨rfl, ⟨nd, rfl⟩⟩; (try first | exact ⟨rfl, _, World.drewN_drewN _ _ _⟩ | exact ⟨rfl, _, Eq.trans (World.drewN_drewN _ _ _) (congrArg (World.drewN _) (Nat.add_assoc _ _ _))⟩)) | (go_at_call 83; (with_reducible refine (spec_l02Left.calls k ad x 60 u _ ?side1 A2.out).mono ?_); (case side1 => repeat (first | exact HP.out | (with_reducible refine Kd.C_alloc ?_ _) | (with_reducible refine Kd.C_drewN ?_ _) | (with_reducible refine Kd.C_drew ?_))); rintro e w' ⟨rfl, ⟨nd, rfl⟩⟩; (try first | exact ⟨rfl, _, World.drewN_drewN _ _ _⟩ | exact ⟨rfl, _, Eq.trans (World.drewN_drewN _ _ _) (congrArg (World.drewN _) (Nat.add_assoc _ _ _))⟩)) | (go_at_call 84; (with_reducible refine (spec_l02Depth.calls k ad x v _ ?side1 A3.out).mono ?_); (case side1 => repeat (first | exact HP.out | (with_reducible refine Kd.C_alloc ?_ _) | (with_reducible refine Kd.C_drewN ?_ _) | (with_reducible refine Kd.C_drew ?_))); rintro e w' ⟨rfl, ⟨nd, rfl⟩⟩; (try first | exact ⟨rfl, _, World.drewN_drewN _ _ _⟩ | exact ⟨rfl, _, Eq.trans (World.drewN_drewN _ _ _) (congrArg (World.drewN _) (Nat.add_assoc _ _ _))⟩)) | (go_at_call 85; (with_reducible refine (spec_l02Form.calls k a0 ad x r _ ?side1 A4.out).mono ?_); (case side1 => repeat (first | exact HP.out | (with_reducible refine Kd.C_alloc ?_ _) | (with_reducible refine Kd.C_drewN ?_ _) | (with_reducible refine Kd.C_drew ?_))); rintro e w' ⟨rfl, ⟨nd, rfl⟩⟩; (try first | exact ⟨rfl, _, World.drewN_drewN _ _ _⟩ | exact ⟨rfl, _, Eq.trans (World.drewN_drewN _ _ _) (congrArg (World.drewN _) (Nat.add_assoc _ _ _))⟩)))
        repeat (go_quiet (first | (go_at_call 61; (with_reducible refine (spec_l00In.calls a0 1 7 true _ A1.out).mono ?_); rintro e w' ⟨rfl, ⟨nd, rfl⟩⟩; (try first | exact ⟨rfl, _, World.drewN_drewN _ _ _⟩ | exact ⟨rfl, _, Eq.trans (World.drewN_drewN _ _ _) (congrArg (World.drewN _) (Nat.add_assoc _ _ _))⟩)) | (go_at_call 83; (with_reducible refine (spec_l02Left.calls k ad x 60 u _ ?side1 A2.out).mono ?_); (case side1 => repeat (first | exact HP.out | (with_reducible refine Kd.C_alloc ?_ _) | (with_reducible refine Kd.C_drewN ?_ _) | (with_reducible refine Kd.C_drew ?_))); rintro e w' ⟨rfl, ⟨nd, rfl⟩⟩; (try first | exact ⟨rfl, _, World.drewN_drewN _ _ _⟩ | exact ⟨rfl, _, Eq.trans (World.drewN_drewN _ _ _) (congrArg (World.drewN _) (Nat.add_assoc _ _ _))⟩)) | (go_at_call 84; (with_reducible refine (spec_l02Depth.calls k ad x v _ ?side1 A3.out).mono ?_); (case side1 => repeat (first | exact HP.out | (with_reducible refine Kd.C_alloc ?_ _) | (with_reducible refine Kd.C_drewN ?_ _) | (with_reducible refine Kd.C_drew ?_))); rintro e w' ⟨rfl, ⟨nd, rfl⟩⟩; (try first | exact ⟨rfl, _, World.drewN_drewN _ _ _⟩ | exact ⟨rfl, _, Eq.trans (World.drewN_drewN _ _ _) (congrArg (World.drewN _) (Nat.add_assoc _ _ _))⟩)) | (go_at_call 85; (with_reducible refine (spec_l02Form.calls k a0 ad x r _ ?side1 A4.out).mono ?_); (case side1 => repeat (first | exact HP.out | (with_reducible refine Kd.C_alloc ?_ _) | (with_reducible refine Kd.C_drewN ?_ _) | (with_reducible refine Kd.C_drew ?_))); rintro e w' ⟨rfl, ⟨nd, rfl⟩⟩; (try first | exact ⟨rfl, _, World.drewN_drewN _ _ _⟩ | exact ⟨rfl, _, Eq.trans (World.drewN_drewN _ _ _) (congrArg (World.drewN _) (Nat.add_assoc _ _ _))⟩))); try go_wp2_with (first | (go_at_call 61; (with_reducible refine (spec_l00In.calls a0 1 7 true _ A1.out).mono ?_); rintro e w' ⟨rfl, ⟨nd, rfl⟩⟩; (try first | exact ⟨rfl, _, World.drewN_drewN _ _ _⟩ | exact ⟨rfl, _, Eq.trans (World.drewN_drewN _ _ _) (congrArg (World.drewN _) (Nat.add_assoc _ _ _))⟩)) | (go_at_call 83; (with_reducible refine (spec_l02Left.calls k ad x 60 u _ ?side1 A2.out).mono ?_); (case side1 => repeat (first | exact HP.out | (with_reducible refine Kd.C_alloc ?_ _) | (with_reducible refine Kd.C_drewN ?_ _) | (with_reducible refine Kd.C_drew ?_))); rintro e w' ⟨rfl, ⟨nd, rfl⟩⟩; (try first | exact ⟨rfl, _, World.drewN_drewN _ _ _⟩ | exact ⟨rfl, _, Eq.trans (World.drewN_drewN _ _ _) (congrArg (World.drewN _) (Nat.add_assoc _ _ _))⟩)) | (go_at_call 84; (with_reducible refine (spec_l02Depth.calls k ad x v _ ?side1 A3.out).mono ?_); (case side1 => repeat (first | exact HP.out | (with_reducible refine Kd.C_alloc ?_ _) | (with_reducible refine Kd.C_drewN ?_ _) | (with_reducible refine Kd.C_drew ?_))); rintro e w' ⟨rfl, ⟨nd, rfl⟩⟩; (try first | exact ⟨rfl, _, World.drewN_drewN _ _ _⟩ | exact ⟨rfl, _, Eq.trans (World.drewN_drewN _ _ _) (congrArg (World.drewN _) (Nat.add_assoc _ _ _))⟩)) | (go_at_call 85; (with_reducible refine (spec_l02Form.calls k a0 ad x r _ ?side1 A4.out).mono ?_); (case side1 => repeat (first | exact HP.out | (with_reducible refine Kd.C_alloc ?_ _) | (with_reducible refine Kd.C_drewN ?_ _) | (with_reducible refine Kd.C_drew ?_))); rintro e w' ⟨rfl, ⟨nd, rfl⟩⟩; (try first | exact ⟨rfl, _, World.drewN_drewN _ _ _⟩ | exact ⟨rfl, _, Eq.trans (World.drewN_drewN _ _ _) (congrArg (World.drewN _) (Nat.add_assoc _ _ _))⟩))))
        go_ret
        exact ⟨(by first | rfl | (simp; done) | (simp [*]; done)), by repeat (first | exact Drawn0.refl _ | apply Drawn0.step)⟩
      · rw [if_neg c2] at h
        have c2b0 : decide (v ≤ 12) = false := decide_eq_false c2
        clear c2
        obtain rfl := Option.some.inj h
        clear h
        go_enter Try.func49, Try.ntmps49
        go_wp2_with (first | (go_at_call 61; (with_reducible refine (spec_l00In.calls a0 1 7 true _ A1.out).mono ?_); rintro e w' ⟨rfl, ⟨nd, rfl⟩⟩; (try first | exact ⟨rfl, _, World.drewN_drewN _ _ _⟩ | exact ⟨rfl, _, Eq.trans (World.drewN_drewN _ _ _) (congrArg (World.drewN _) (Nat.add_assoc _ _ _))⟩)) | (go_at_call 83; (with_reducible refine (spec_l02Left.calls k ad x 60 u _ ?side1 A2.out).mono ?_); (case side1 => repeat (first | exact HP.out | (with_reducible refine Kd.C_alloc ?_ _) | (with_reducible refine Kd.C_drewN ?_ _) | (with_reducible refine Kd.C_drew ?_))); rintro e w' ⟨rfl, ⟨nd, rfl⟩⟩; (try first | exact ⟨rfl, _, World.drewN_drewN _ _ _⟩ | exact ⟨rfl, _, Eq.trans (World.drewN_drewN _ _ _) (congrArg (World.drewN _) (Nat.add_assoc _ _ _))⟩)) | (go_at_call 84; (with_reducible refine (spec_l02Depth.calls k ad x v _ ?side1 A3.out).mono ?_); (case side1 => repeat (first | exact HP.out | (with_reducible refine Kd.C_alloc ?_ _) | (with_reducible refine Kd.C_drewN ?_ _) | (with_reducible refine Kd.C_drew ?_))); rintro e w' ⟨rfl, ⟨nd, rfl⟩⟩; (try first | exact ⟨rfl, _, World.drewN_drewN _ _ _⟩ | exact ⟨rfl, _, Eq.trans (World.drewN_drewN _ _ _) (congrArg (World.drewN _) (Nat.add_assoc _ _ _))⟩)))
        repeat (go_quiet (first | (go_at_call 61; (with_reducible refine (spec_l00In.calls a0 1 7 true _ A1.out).mono ?_); rintro e w' ⟨rfl, ⟨nd, rfl⟩⟩; (try first | exact ⟨rfl, _, World.drewN_drewN _ _ _⟩ | exact ⟨rfl, _, Eq.trans (World.drewN_drewN _ _ _) (congrArg (World.drewN _) (Nat.add_assoc _ _ _))⟩)) | (go_at_call 83; (with_reducible refine (spec_l02Left.calls k ad x 60 u _ ?side1 A2.out).mono ?_); (case side1 => repeat (first | exact HP.out | (with_reducible refine Kd.C_alloc ?_ _) | (with_reducible refine Kd.C_drewN ?_ _) | (with_reducible refine Kd.C_drew ?_))); rintro e w' ⟨rfl, ⟨nd, rfl⟩⟩; (try first | exact ⟨rfl, _, World.drewN_drewN _ _ _⟩ | exact ⟨rfl, _, Eq.trans (World.drewN_drewN _ _ _) (congrArg (World.drewN _) (Nat.add_assoc _ _ _))⟩)) | (go_at_call 84; (with_reducible refine (spec_l02Depth.calls k ad x v _ ?side1 A3.out).mono ?_); (case side1 => repeat (first | exact HP.out | (with_reducible refine Kd.C_alloc ?_ _) | (with_reducible refine Kd.C_drewN ?_ _) | (with_reducible refine Kd.C_drew ?_))); rintro e w' ⟨rfl, ⟨nd, rfl⟩⟩; (try first | exact ⟨rfl, _, World.drewN_drewN _ _ _⟩ | exact ⟨rfl, _, Eq.trans (World.drewN_drewN _ _ _) (congrArg (World.drewN _) (Nat.add_assoc _ _ _))⟩))); try go_wp2_with (first | (go_at_call 61; (with_reducible refine (spec_l00In.calls a0 1 7 true _ A1.out).mono ?_); rintro e w' ⟨rfl, ⟨nd, rfl⟩⟩; (try first | exact ⟨rfl, _, World.drewN_drewN _ _ _⟩ | exact ⟨rfl, _, Eq.trans (World.drewN_drewN _ _ _) (congrArg (World.drewN _) (Nat.add_assoc _ _ _))⟩)) | (go_at_call 83; (with_reducible refine (spec_l02Left.calls k ad x 60 u _ ?side1 A2.out).mono ?_); (case side1 => repeat (first | exact HP.out | (with_reducible refine Kd.C_alloc ?_ _) | (with_reducible refine Kd.C_drewN ?_ _) | (with_reducible refine Kd.C_drew ?_))); rintro e w' ⟨rfl, ⟨nd, rfl⟩⟩; (try first | exact ⟨rfl, _, World.drewN_drewN _ _ _⟩ | exact ⟨rfl, _, Eq.trans (World.drewN_drewN _ _ _) (congrArg (World.drewN _) (Nat.add_assoc _ _ _))⟩)) | (go_at_call 84; (with_reducible refine (spec_l02Depth.calls k ad x v _ ?side1 A3.out).mono ?_); (case side1 => repeat (first | exact HP.out | (with_reducible refine Kd.C_alloc ?_ _) | (with_reducible refine Kd.C_drewN ?_ _) | (with_reducible refine Kd.C_drew ?_))); rintro e w' ⟨rfl, ⟨nd, rfl⟩⟩; (try first | exact ⟨rfl, _, World.drewN_drewN _ _ _⟩ | exact ⟨rfl, _, Eq.trans (World.drewN_drewN _ _ _) (congrArg (World.drewN _) (Nat.add_assoc _ _ _))⟩))))
        go_ret
        exact ⟨(by first | rfl | (simp; done) | (simp [*]; done)), by repeat (first | exact Drawn0.refl _ | apply Drawn0.step)⟩
    · rw [if_neg c1] at h
      have c1b0 : decide (u ≥ 0) = false := decide_eq_false c1
      have c1b1 : decide (0 ≤ u) = false := decide_eq_false c1
      clear c1
      obtain rfl := Option.some.inj h
      clear h
      go_enter Try.func49, Try.ntmps49
      go_wp2_with (first | (go_at_call 61; (with_reducible refine (spec_l00In.calls a0 1 7 true _ A1.out).mono ?_); rintro e w' ⟨rfl, ⟨nd, rfl⟩⟩; (try first | exact ⟨rfl, _, World.drewN_drewN _ _ _⟩ | exact ⟨rfl, _, Eq.trans (World.drewN_drewN _ _ _) (congrArg (World.drewN _) (Nat.add_assoc _ _ _))⟩)) | (go_at_call 83; (with_reducible refine (spec_l02Left.calls k ad x 60 u _ ?side1 A2.out).mono ?_); (case side1 => repeat (first | exact HP.out | (with_reducible refine Kd.C_alloc ?_ _) | (with_reducible refine Kd.C_drewN ?_ _) | (with_reducible refine Kd.C_drew ?_))); rintro e w' ⟨rfl, ⟨nd, rfl⟩⟩; (try first | exact ⟨rfl, _, World.drewN_drewN _ _ _⟩ | exact ⟨rfl, _, Eq.trans (World.drewN_drewN _ _ _) (congrArg (World.drewN _) (Nat.add_assoc _ _ _))⟩)))
      repeat (go_quiet (first | (go_at_call 61; (with_reducible refine (spec_l00In.calls a0 1 7 true _ A1.out).mono ?_); rintro e w' ⟨rfl, ⟨nd, rfl⟩⟩; (try first | exact ⟨rfl, _, World.drewN_drewN _ _ _⟩ | exact ⟨rfl, _, Eq.trans (World.drewN_drewN _ _ _) (congrArg (World.drewN _) (Nat.add_assoc _ _ _))⟩)) | (go_at_call 83; (with_reducible refine (spec_l02Left.calls k ad x 60 u _ ?side1 A2.out).mono ?_); (case side1 => repeat (first | exact HP.out | (with_reducible refine Kd.C_alloc ?_ _) | (with_reducible refine Kd.C_drewN ?_ _) | (with_reducible refine Kd.C_drew ?_))); rintro e w' ⟨rfl, ⟨nd, rfl⟩⟩; (try first | exact ⟨rfl, _, World.drewN_drewN _ _ _⟩ | exact ⟨rfl, _, Eq.trans (World.drewN_drewN _ _ _) (congrArg (World.drewN _) (Nat.add_assoc _ _ _))⟩))); try go_wp2_with (first | (go_at_call 61; (with_reducible refine (spec_l00In.calls a0 1 7 true _ A1.out).mono ?_); rintro e w' ⟨rfl, ⟨nd, rfl⟩⟩; (try first | exact ⟨rfl, _, World.drewN_drewN _ _ _⟩ | exact ⟨rfl, _, Eq.trans (World.drewN_drewN _ _ _) (congrArg (World.drewN _) (Nat.add_assoc _ _ _))⟩)) | (go_at_call 83; (with_reducible refine (spec_l02Left.calls k ad x 60 u _ ?side1 A2.out).mono ?_); (case side1 => repeat (first | exact HP.out | (with_reducible refine Kd.C_alloc ?_ _) | (with_reducible refine Kd.C_drewN ?_ _) | (with_reducible refine Kd.C_drew ?_))); rintro e w' ⟨rfl, ⟨nd, rfl⟩⟩; (try first | exact ⟨rfl, _, World.drewN_drewN _ _ _⟩ | exact ⟨rfl, _, Eq.trans (World.drewN_drewN _ _ _) (congrArg (World.drewN _) (Nat.add_assoc _ _ _))⟩))))
      go_ret
      exact ⟨(by first | rfl | (simp; done) | (simp [*]; done)), by repeat (first | exact Drawn0.refl _ | apply Drawn0.step)⟩

end Go.Proofs.Ytjnobnmjhpmpfaa.P

namespace Go.Proofs.Ytjnobnmjhpmpfaa.P
open Go.RowKit Go.Proofs.YtjnobnmjhpmpfaaW.PrintWords Go.Proofs.YtjnobnmjhpmpfaaW.PrintLast Go.Proofs.YtjnobnmjhpmpfaaW.PrintMore
attribute [local go_sem] max2_int min2_int max_two min_two max_three min_three max_four min_four
set_option linter.unusedVariables false
set_option linter.unusedSimpArgs false

/-! ### spec_l02Told: function 64 (by hand) -/
def spec_l02Told.f (k : Nat) (a0 : Int) (a1_0 : Int) (a1_1 : Int) (l1_2 : List S29) : Option (Int × Int × List S29 × Int) := (spec_l02Ok.f k a0 ⟨a1_0, a1_1, l1_2⟩).bind fun t => (if t = true then (some (a1_0, a1_1, l1_2, 0)) else (some (0, 0, ([] : List S29), 3)))
set_option maxHeartbeats 8000000 in
set_option maxRecDepth 100000 in
theorem spec_l02Told.callsT (k : Nat) (a0 : Int) (a1_0 : Int) (a1_1 : Int) (A1_2 : Option Addr) (c1_2 : Nat) (l1_2 : List S29) (r1 : Int) (r2 : Int) (r3 : List S29) (r4 : Int) (w : World) (hr : Kd.C k29 w A1_2 l1_2.length l1_2) (hc : l1_2.length ≤ c1_2) (h : spec_l02Told.f k a0 a1_0 a1_1 l1_2 = some (r1, r2, r3, r4)) :
    Calls Try.prog 64 #[.int .i64 a0, .agg #[.int .i64 a1_0, .int .i64 a1_1, .slice A1_2 l1_2.length c1_2]] w fun e w' => ∃ v : Value, e = .returned (.tuple #[.agg #[.int .i64 r1, .int .i64 r2, v], .int .i64 r4]) ∧ ((v = .slice A1_2 l1_2.length c1_2 ∧ r3 = l1_2) ∨ (v = .slice none 0 0 ∧ r3 = [])) ∧ Below w.heap.size w w' := by
  have hu29 := Try.underlying29
  have HR := Aside0.mk hr
  have HC := Aside0.mk hc
  clear hr hc
  have HB := Aside0.mk (Below.refl w.heap.size w)
  unfold spec_l02Told.f at h
  replace h := Option.bind_eq_some_iff.mp h
  obtain ⟨t, At, H⟩ := h
  have A3 := Aside0.mk At
  clear At
  by_cases c4 : t = true
  · subst c4
    rw [if_pos rfl] at H
    simp only [Option.some.injEq, Prod.mk.injEq] at H
    obtain ⟨rfl, rfl, rfl, rfl⟩ := H
    go_enter Try.func64, Try.ntmps64
    go_wp2_with (first | ((with_reducible refine gate_dst (N := 3) rfl ?_); refine box_event ?hg (N := 3) ?hd (cs := #[.int .i64 a1_0, .int .i64 a1_1, .slice A1_2 l1_2.length c1_2]) (t := 29) ?hr ?_; (case hd => rfl); (case hg => rfl); (case hr => first | (go_simp; done) | (go_simp; rfl)); intro g3 hg w1 hbox hb; have n0_ := Aside0.mk (below_step (by repeat (first | (with_reducible first | exact HB.out | apply below_alloc | apply pw_below_drewN | apply below_drew1) | exact HB.out)) hb); have GW_g3 := Aside0.mk ((by rw [hg]; exact below_size (by repeat (first | (with_reducible first | exact HB.out | apply below_alloc | apply pw_below_drewN | apply below_drew1) | exact HB.out))) : w.heap.size ≤ g3); have HR2 := Aside0.mk (Kd.C_below (by repeat (first | exact HR.out | (with_reducible refine Kd.C_alloc ?_ _) | (with_reducible refine Kd.C_drewN ?_ _) | (with_reducible refine Kd.C_drew ?_))) hb); clear HR; have HR := HR2; clear HR2; clear HB ; have HB := n0_; clear n0_; have BK_g3 := Aside0.mk hbox; clear hbox hb hg; have hz_g30 : w1.cell? ⟨g3, 0, none⟩ = some (.int .i64 a1_0) := (blk_cell BK_g3.out 0).trans rfl; have hz_g3f0 := blk_frozen BK_g3.out 0; have hz_g31 : w1.cell? ⟨g3, 1, none⟩ = some (.int .i64 a1_1) := (blk_cell BK_g3.out 1).trans rfl; have hz_g3f1 := blk_frozen BK_g3.out 1; have hz_g32 : w1.cell? ⟨g3, 2, none⟩ = some (.slice A1_2 l1_2.length c1_2) := (blk_cell BK_g3.out 2).trans rfl; have hz_g3f2 := blk_frozen BK_g3.out 2) | ((with_reducible refine gate_dst (N := 4) rfl ?_); refine box_event ?hg (N := 4) ?hd (cs := #[.int .i64 0, .int .i64 0, .slice none 0 0]) (t := 29) ?hr ?_; (case hd => rfl); (case hg => rfl); (case hr => first | (go_simp; done) | (go_simp; rfl)); intro g4 hg w2 hbox hb; have n0_ := Aside0.mk (below_step (by repeat (first | (with_reducible first | exact HB.out | apply below_alloc | apply pw_below_drewN | apply below_drew1) | exact HB.out)) hb); have GW_g4 := Aside0.mk ((by rw [hg]; exact below_size (by repeat (first | (with_reducible first | exact HB.out | apply below_alloc | apply pw_below_drewN | apply below_drew1) | exact HB.out))) : w.heap.size ≤ g4); have n1_ := Aside0.mk (blk_below (g := g3) (o := .cells #[.int .i64 a1_0, .int .i64 a1_1, .slice A1_2 l1_2.length c1_2] 29 (0, 0)) (by (with_reducible repeat (first | refine blk_drewN ?_ _ | refine blk_drew ?_ | refine blk_alloc ?_ _)); exact BK_g3.out) hb); have HR2 := Aside0.mk (Kd.C_below (by repeat (first | exact HR.out | (with_reducible refine Kd.C_alloc ?_ _) | (with_reducible refine Kd.C_drewN ?_ _) | (with_reducible refine Kd.C_drew ?_))) hb); clear HR; have HR := HR2; clear HR2; clear HB BK_g3; have HB := n0_; clear n0_; clear hz_g30 hz_g3f0 hz_g31 hz_g3f1 hz_g32 hz_g3f2; have BK_g3 := n1_; clear n1_; have BK_g4 := Aside0.mk hbox; clear hbox hb hg; have hz_g30 : w2.cell? ⟨g3, 0, none⟩ = some (.int .i64 a1_0) := (blk_cell BK_g3.out 0).trans rfl; have hz_g3f0 := blk_frozen BK_g3.out 0; have hz_g31 : w2.cell? ⟨g3, 1, none⟩ = some (.int .i64 a1_1) := (blk_cell BK_g3.out 1).trans rfl; have hz_g3f1 := blk_frozen BK_g3.out 1; have hz_g32 : w2.cell? ⟨g3, 2, none⟩ = some (.slice A1_2 l1_2.length c1_2) := (blk_cell BK_g3.out 2).trans rfl; have hz_g3f2 := blk_frozen BK_g3.out 2; have hz_g40 : w2.cell? ⟨g4, 0, none⟩ = some (.int .i64 0) := (blk_cell BK_g4.out 0).trans rfl; have hz_g4f0 := blk_frozen BK_g4.out 0; have hz_g41 : w2.cell? ⟨g4, 1, none⟩ = some (.int .i64 0) := (blk_cell BK_g4.out 1).trans rfl; have hz_g4f1 := blk_frozen BK_g4.out 1; have hz_g42 : w2.cell? ⟨g4, 2, none⟩ = some (.slice none 0 0) := (blk_cell BK_g4.out 2).trans rfl; have hz_g4f2 := blk_frozen BK_g4.out 2) | (go_at_call 49; (with_reducible refine (spec_l02Ok.calls k a0 _ ⟨a1_0, a1_1, l1_2⟩ true _ ?side1 A3.out).mono ?_); (case side1 => exact gate_box (by (with_reducible repeat (first | refine blk_drewN ?_ _ | refine blk_drew ?_ | refine blk_alloc ?_ _)); exact BK_g3.out) (by repeat (first | exact HR.out | (with_reducible refine Kd.C_alloc ?_ _) | (with_reducible refine Kd.C_drewN ?_ _) | (with_reducible refine Kd.C_drew ?_))) HC.out); rintro e w' ⟨rfl, ⟨nd, rfl⟩⟩))
    refine bodyPost_ret (results_ct rfl _ _ g4 29 #[.int .i64 a1_0, .int .i64 a1_1, .slice A1_2 l1_2.length c1_2] (0, 0) _ rfl (by (with_reducible repeat (first | refine blk_drewN ?_ _ | refine blk_drew ?_ | refine blk_alloc ?_ _)); refine blk_put (cs := #[.int .i64 a1_0, .int .i64 a1_1, .slice none 0 0]) ?_ 2 _ rfl; (with_reducible repeat (first | refine blk_drewN ?_ _ | refine blk_drew ?_ | refine blk_alloc ?_ _)); refine blk_put (cs := #[.int .i64 a1_0, .int .i64 0, .slice none 0 0]) ?_ 1 _ rfl; (with_reducible repeat (first | refine blk_drewN ?_ _ | refine blk_drew ?_ | refine blk_alloc ?_ _)); refine blk_put (cs := #[.int .i64 0, .int .i64 0, .slice none 0 0]) ?_ 0 _ rfl; (with_reducible repeat (first | refine blk_drewN ?_ _ | refine blk_drew ?_ | refine blk_alloc ?_ _)); exact BK_g4.out) Try.underlying29 rfl (by kernel_rfl)) rfl ?_
    exact ⟨_, rfl, by first | exact Or.inl ⟨rfl, rfl⟩ | exact Or.inl ⟨rfl, trivial⟩, (by repeat (first | (with_reducible first | exact HB.out | apply below_alloc | apply pw_below_drewN | apply below_drew1 | refine below_set ?_ GW_g4.out) | exact HB.out))⟩
  · replace c4 := Bool.eq_false_iff.mpr c4
    subst c4
    rw [if_neg (show ¬ (false = true) by decide)] at H
    simp only [Option.some.injEq, Prod.mk.injEq] at H
    obtain ⟨rfl, rfl, rfl, rfl⟩ := H
    go_enter Try.func64, Try.ntmps64
    go_wp2_with (first | ((with_reducible refine gate_dst (N := 3) rfl ?_); refine box_event ?hg (N := 3) ?hd (cs := #[.int .i64 a1_0, .int .i64 a1_1, .slice A1_2 l1_2.length c1_2]) (t := 29) ?hr ?_; (case hd => rfl); (case hg => rfl); (case hr => first | (go_simp; done) | (go_simp; rfl)); intro g3 hg w1 hbox hb; have n0_ := Aside0.mk (below_step (by repeat (first | (with_reducible first | exact HB.out | apply below_alloc | apply pw_below_drewN | apply below_drew1) | exact HB.out)) hb); have GW_g3 := Aside0.mk ((by rw [hg]; exact below_size (by repeat (first | (with_reducible first | exact HB.out | apply below_alloc | apply pw_below_drewN | apply below_drew1) | exact HB.out))) : w.heap.size ≤ g3); have HR2 := Aside0.mk (Kd.C_below (by repeat (first | exact HR.out | (with_reducible refine Kd.C_alloc ?_ _) | (with_reducible refine Kd.C_drewN ?_ _) | (with_reducible refine Kd.C_drew ?_))) hb); clear HR; have HR := HR2; clear HR2; clear HB ; have HB := n0_; clear n0_; have BK_g3 := Aside0.mk hbox; clear hbox hb hg; have hz_g30 : w1.cell? ⟨g3, 0, none⟩ = some (.int .i64 a1_0) := (blk_cell BK_g3.out 0).trans rfl; have hz_g3f0 := blk_frozen BK_g3.out 0; have hz_g31 : w1.cell? ⟨g3, 1, none⟩ = some (.int .i64 a1_1) := (blk_cell BK_g3.out 1).trans rfl; have hz_g3f1 := blk_frozen BK_g3.out 1; have hz_g32 : w1.cell? ⟨g3, 2, none⟩ = some (.slice A1_2 l1_2.length c1_2) := (blk_cell BK_g3.out 2).trans rfl; have hz_g3f2 := blk_frozen BK_g3.out 2) | ((with_reducible refine gate_dst (N := 4) rfl ?_); refine box_event ?hg (N := 4) ?hd (cs := #[.int .i64 0, .int .i64 0, .slice none 0 0]) (t := 29) ?hr ?_; (case hd => rfl); (case hg => rfl); (case hr => first | (go_simp; done) | (go_simp; rfl)); intro g4 hg w2 hbox hb; have n0_ := Aside0.mk (below_step (by repeat (first | (with_reducible first | exact HB.out | apply below_alloc | apply pw_below_drewN | apply below_drew1) | exact HB.out)) hb); have GW_g4 := Aside0.mk ((by rw [hg]; exact below_size (by repeat (first | (with_reducible first | exact HB.out | apply below_alloc | apply pw_below_drewN | apply below_drew1) | exact HB.out))) : w.heap.size ≤ g4); have n1_ := Aside0.mk (blk_below (g := g3) (o := .cells #[.int .i64 a1_0, .int .i64 a1_1, .slice A1_2 l1_2.length c1_2] 29 (0, 0)) (by (with_reducible repeat (first | refine blk_drewN ?_ _ | refine blk_drew ?_ | refine blk_alloc ?_ _)); exact BK_g3.out) hb); have HR2 := Aside0.mk (Kd.C_below (by repeat (first | exact HR.out | (with_reducible refine Kd.C_alloc ?_ _) | (with_reducible refine Kd.C_drewN ?_ _) | (with_reducible refine Kd.C_drew ?_))) hb); clear HR; have HR := HR2; clear HR2; clear HB BK_g3; have HB := n0_; clear n0_; clear hz_g30 hz_g3f0 hz_g31 hz_g3f1 hz_g32 hz_g3f2; have BK_g3 := n1_; clear n1_; have BK_g4 := Aside0.mk hbox; clear hbox hb hg; have hz_g30 : w2.cell? ⟨g3, 0, none⟩ = some (.int .i64 a1_0) := (blk_cell BK_g3.out 0).trans rfl; have hz_g3f0 := blk_frozen BK_g3.out 0; have hz_g31 : w2.cell? ⟨g3, 1, none⟩ = some (.int .i64 a1_1) := (blk_cell BK_g3.out 1).trans rfl; have hz_g3f1 := blk_frozen BK_g3.out 1; have hz_g32 : w2.cell? ⟨g3, 2, none⟩ = some (.slice A1_2 l1_2.length c1_2) := (blk_cell BK_g3.out 2).trans rfl; have hz_g3f2 := blk_frozen BK_g3.out 2; have hz_g40 : w2.cell? ⟨g4, 0, none⟩ = some (.int .i64 0) := (blk_cell BK_g4.out 0).trans rfl; have hz_g4f0 := blk_frozen BK_g4.out 0; have hz_g41 : w2.cell? ⟨g4, 1, none⟩ = some (.int .i64 0) := (blk_cell BK_g4.out 1).trans rfl; have hz_g4f1 := blk_frozen BK_g4.out 1; have hz_g42 : w2.cell? ⟨g4, 2, none⟩ = some (.slice none 0 0) := (blk_cell BK_g4.out 2).trans rfl; have hz_g4f2 := blk_frozen BK_g4.out 2) | (go_at_call 49; (with_reducible refine (spec_l02Ok.calls k a0 _ ⟨a1_0, a1_1, l1_2⟩ false _ ?side1 A3.out).mono ?_); (case side1 => exact gate_box (by (with_reducible repeat (first | refine blk_drewN ?_ _ | refine blk_drew ?_ | refine blk_alloc ?_ _)); exact BK_g3.out) (by repeat (first | exact HR.out | (with_reducible refine Kd.C_alloc ?_ _) | (with_reducible refine Kd.C_drewN ?_ _) | (with_reducible refine Kd.C_drew ?_))) HC.out); rintro e w' ⟨rfl, ⟨nd, rfl⟩⟩))
    refine bodyPost_ret (results_ct rfl _ _ g4 29 #[.int .i64 0, .int .i64 0, .slice none 0 0] (0, 0) _ rfl (by (with_reducible repeat (first | refine blk_drewN ?_ _ | refine blk_drew ?_ | refine blk_alloc ?_ _)); refine blk_put (cs := #[.int .i64 0, .int .i64 0, .slice none 0 0]) ?_ 2 _ rfl; (with_reducible repeat (first | refine blk_drewN ?_ _ | refine blk_drew ?_ | refine blk_alloc ?_ _)); refine blk_put (cs := #[.int .i64 0, .int .i64 0, .slice none 0 0]) ?_ 1 _ rfl; (with_reducible repeat (first | refine blk_drewN ?_ _ | refine blk_drew ?_ | refine blk_alloc ?_ _)); refine blk_put (cs := #[.int .i64 0, .int .i64 0, .slice none 0 0]) ?_ 0 _ rfl; (with_reducible repeat (first | refine blk_drewN ?_ _ | refine blk_drew ?_ | refine blk_alloc ?_ _)); exact BK_g4.out) Try.underlying29 rfl (by kernel_rfl)) rfl ?_
    exact ⟨_, rfl, by first | exact Or.inr ⟨rfl, rfl⟩ | exact Or.inr ⟨rfl, trivial⟩, (by repeat (first | (with_reducible first | exact HB.out | apply below_alloc | apply pw_below_drewN | apply below_drew1 | refine below_set ?_ GW_g4.out) | exact HB.out))⟩
end Go.Proofs.Ytjnobnmjhpmpfaa.P

namespace Go.Proofs.Ytjnobnmjhpmpfaa.P
open Go.RowKit Go.Proofs.YtjnobnmjhpmpfaaW.PrintWords Go.Proofs.YtjnobnmjhpmpfaaW.PrintLast Go.Proofs.YtjnobnmjhpmpfaaW.PrintMore
attribute [local go_sem] max2_int min2_int max_two min_two max_three min_three max_four min_four
set_option linter.unusedVariables false
set_option linter.unusedSimpArgs false

/-! ### spec_l02Size: function 44 (by hand) -/
mutual
def spec_l02Size.l0 : Nat → S29 → Int → Int → Option Int
  | 0, _, _, _ => none
  | k + 1, x, n, i => if i < (x.f2.length : Int) then (if 0 ≤ i then ((spec_l02Size.f k (rd_T29 x.f2 i)).bind fun t => spec_l02Size.l0 k x (wrap64 (n + t)) (wrap64 (i + 1))) else none) else some n
def spec_l02Size.f : Nat → S29 → Option Int
  | 0, _ => none
  | k + 1, x => spec_l02Size.l0 k x 1 0
end
set_option maxHeartbeats 8000000 in
set_option maxRecDepth 100000 in
theorem spec_l02Size.calls (k : Nat) : ∀ (ad : Addr) (x : S29) (r : Int) (w : World) (hp : Kd.C k29 w (some ad) 1 [x]) (h : spec_l02Size.f k x = some r),
    Calls Try.prog 44 #[.pointer (some ad)] w fun e w' => e = .returned (.int .i64 r) ∧ Drawn0 w w' := by
  induction k using Nat.strongRecOn with
  | _ k ih =>
  intro ad x r w hp h
  cases k with
  | zero => exact absurd h (by simp [spec_l02Size.f])
  | succ k =>
  simp only [spec_l02Size.f] at h
  obtain ⟨A, c, hx0, hx1, hx2, hl, hC⟩ := gate_at hp
  have HP := Aside0.mk hp
  have HC := Aside0.mk hC
  clear hp hC hl
  have H' := Aside0.mk h
  clear h
  go_enter Try.func44, Try.ntmps44
  go_wp2
  repeat (go_quiet (fail); try go_wp2)
  go_loopg [3, 4] k (fun kq v3 v4 w' => ∃ (n : Int) (i : Int), v3 = .int .i64 n ∧ v4 = .int .i64 i ∧ Aside0 (spec_l02Size.l0 kq x n i = some r) ∧ Aside0 (kq ≤ k) ∧ Drawn0 w w')
  case atStart => exact ⟨1, 0, rfl, rfl, H', ⟨Nat.le_refl _⟩, by repeat (first | exact Drawn0.refl _ | apply Drawn0.step)⟩
  case round =>
    clear H'
    obtain ⟨n, i, rfl, rfl, HA, HK, ⟨m1, rfl⟩⟩ := hrel
    cases gk with
    | zero => exact absurd HA.out (by simp [spec_l02Size.l0])
    | succ k1 =>
      have H := HA.out
      clear HA
      simp only [spec_l02Size.l0] at H
      by_cases c6 : i < (x.f2.length : Int)
      · rw [if_pos c6] at H
        have c6b0 : decide (i < (x.f2.length : Int)) = true := decide_eq_true c6
        by_cases c7 : 0 ≤ i
        · rw [if_pos c7] at H
          have c7b0 : decide (0 ≤ i) = true := decide_eq_true c7
          replace H := Option.bind_eq_some_iff.mp H
          obtain ⟨t, At, H⟩ := H
          have A7 := Aside0.mk At
          have H' := Aside0.mk H
          clear At H
          obtain ⟨ad2, A2, c2, e2, _⟩ := at_T29 HC.out i c7 c6
          cases e2
          have HE := Aside0.mk (gate_el HC.out i c7 c6)
          replace c7 := eq_true c7
          replace c6 := eq_true c6
          go_wp2_with (first | (go_at_call 44; (with_reducible refine (ih k1 (by have := HK.out; omega) _ (rd_T29 x.f2 i) t _ ?side1 A7.out).mono ?_); (case side1 => repeat (first | exact HE.out | (with_reducible refine Kd.C_alloc ?_ _) | (with_reducible refine Kd.C_drewN ?_ _) | (with_reducible refine Kd.C_drew ?_))); rintro e w' ⟨rfl, ⟨nd, rfl⟩⟩; (try first | exact ⟨rfl, _, World.drewN_drewN _ _ _⟩ | exact ⟨rfl, _, Eq.trans (World.drewN_drewN _ _ _) (congrArg (World.drewN _) (Nat.add_assoc _ _ _))⟩)))
          repeat (go_quiet (first | (go_at_call 44; (with_reducible refine (ih k1 (by have := HK.out; omega) _ (rd_T29 x.f2 i) t _ ?side1 A7.out).mono ?_); (case side1 => repeat (first | exact HE.out | (with_reducible refine Kd.C_alloc ?_ _) | (with_reducible refine Kd.C_drewN ?_ _) | (with_reducible refine Kd.C_drew ?_))); rintro e w' ⟨rfl, ⟨nd, rfl⟩⟩; (try first | exact ⟨rfl, _, World.drewN_drewN _ _ _⟩ | exact ⟨rfl, _, Eq.trans (World.drewN_drewN _ _ _) (congrArg (World.drewN _) (Nat.add_assoc _ _ _))⟩))); try go_wp2_with (first | (go_at_call 44; (with_reducible refine (ih k1 (by have := HK.out; omega) _ (rd_T29 x.f2 i) t _ ?side1 A7.out).mono ?_); (case side1 => repeat (first | exact HE.out | (with_reducible refine Kd.C_alloc ?_ _) | (with_reducible refine Kd.C_drewN ?_ _) | (with_reducible refine Kd.C_drew ?_))); rintro e w' ⟨rfl, ⟨nd, rfl⟩⟩; (try first | exact ⟨rfl, _, World.drewN_drewN _ _ _⟩ | exact ⟨rfl, _, Eq.trans (World.drewN_drewN _ _ _) (congrArg (World.drewN _) (Nat.add_assoc _ _ _))⟩))))
          go_roundg k1
          case measure => have := HK.out; omega
          case rel => exact ⟨_, _, rfl, (by first | rfl | (simp; done)), H', ⟨by have := HK.out; omega⟩, by repeat (first | exact Drawn0.refl _ | apply Drawn0.step)⟩
        · rw [if_neg c7] at H
          exact absurd H (by simp)
      · rw [if_neg c6] at H
        have c6b0 : decide (i < (x.f2.length : Int)) = false := decide_eq_false c6
        clear c6
        obtain rfl := Option.some.inj H
        go_wp2
        repeat (go_quiet (fail); try go_wp2)
        go_ret
        exact ⟨rfl, by repeat (first | exact Drawn0.refl _ | apply Drawn0.step)⟩

end Go.Proofs.Ytjnobnmjhpmpfaa.P

namespace Go.Proofs.Ytjnobnmjhpmpfaa.P
open Go.RowKit Go.Proofs.YtjnobnmjhpmpfaaW.PrintWords Go.Proofs.YtjnobnmjhpmpfaaW.PrintLast Go.Proofs.YtjnobnmjhpmpfaaW.PrintMore
attribute [local go_sem] max2_int min2_int max_two min_two max_three min_three max_four min_four
set_option linter.unusedVariables false
set_option linter.unusedSimpArgs false

/-! ### spec_l02Own: function 90 (by hand) -/
mutual
def spec_l02Own.l0 : Nat → S29 → List S29 → Int → Option S29
  | 0, _, _, _ => none
  | k + 1, x, out, i => if i < (x.f2.length : Int) then (if 0 ≤ i then ((spec_l02Own.f k (rd_T29 x.f2 i)).bind fun t => if out.length < 1048576 then spec_l02Own.l0 k x (out ++ [t]) (wrap64 (i + 1)) else none) else none) else some ⟨x.f0, x.f1, out⟩
def spec_l02Own.f : Nat → S29 → Option S29
  | 0, _ => none
  | k + 1, x => spec_l02Own.l0 k x [] 0
end
set_option maxHeartbeats 8000000 in
set_option maxRecDepth 100000 in
theorem spec_l02Own.calls (k : Nat) : ∀ (ad : Addr) (x y : S29) (w : World) (hp : Kd.C k29 w (some ad) 1 [x]) (h : spec_l02Own.f k x = some y),
    Calls Try.prog 90 #[.pointer (some ad)] w fun e w' => ∃ v, e = .returned (.agg #[.int .i64 y.f0, .int .i64 y.f1, v]) ∧ Kd.S kG 29 w' w.heap.size (fun _ => True) v y.f2 ∧ Below w.heap.size w w' := by
  induction k using Nat.strongRecOn with
  | _ k ih =>
  intro ad x y w hp h
  cases k with
  | zero => exact absurd h (by simp [spec_l02Own.f])
  | succ k =>
  simp only [spec_l02Own.f] at h
  obtain ⟨A, c, hx0, hx1, hx2, hl, hC⟩ := gate_at hp
  have hq0 := Aside0.mk hx0
  have hq1 := Aside0.mk hx1
  have hq2 := Aside0.mk hx2
  have HC := Aside0.mk hC
  have IH := Aside0.mk ih
  have HB := Aside0.mk (Below.refl w.heap.size w)
  have A1 := Aside0.mk h
  have hu29 := Try.underlying29
  clear hp hC hl ih h hx0 hx1 hx2
  go_enter Try.func90, Try.ntmps90
  go_wp2_with (first | ((with_reducible refine gate_dst (N := 2) rfl ?_); refine box_event ?hg (N := 2) ?hd (cs := #[.int .i64 0, .int .i64 0, .slice none 0 0]) (t := 29) ?hr ?_; (case hd => rfl); (case hg => rfl); (case hr => first | (go_simp; done) | (go_simp; rfl)); intro g2 hg w1 hbox hb; have n0_ := Aside0.mk (below_step (by repeat (first | (with_reducible first | exact HB.out | apply below_alloc | apply pw_below_drewN | apply below_drew1) | exact HB.out)) hb); have GW_g2 := Aside0.mk ((by rw [hg]; exact below_size (by repeat (first | (with_reducible first | exact HB.out | apply below_alloc | apply pw_below_drewN | apply below_drew1) | exact HB.out))) : w.heap.size ≤ g2); clear HB ; have HB := n0_; clear n0_; have BK_g2 := Aside0.mk hbox; clear hbox hb hg; have hz_g20 : w1.cell? ⟨g2, 0, none⟩ = some (.int .i64 0) := (blk_cell BK_g2.out 0).trans rfl; have hz_g2f0 := blk_frozen BK_g2.out 0; have hz_g21 : w1.cell? ⟨g2, 1, none⟩ = some (.int .i64 0) := (blk_cell BK_g2.out 1).trans rfl; have hz_g2f1 := blk_frozen BK_g2.out 1; have hz_g22 : w1.cell? ⟨g2, 2, none⟩ = some (.slice none 0 0) := (blk_cell BK_g2.out 2).trans rfl; have hz_g2f2 := blk_frozen BK_g2.out 2))
  have HB0 : Aside0 (Below w.heap.size w w1.drew) := ⟨(by repeat (first | (with_reducible first | exact HB.out | apply below_alloc | apply pw_below_drewN | apply below_drew1) | exact HB.out))⟩
  have B20 : Aside0 (w1.drew.heap[g2]? = some (.cells #[.int .i64 0, .int .i64 0, .slice none 0 0] 29 (0, 0))) := ⟨(by (with_reducible repeat (first | refine blk_drewN ?_ _ | refine blk_drew ?_ | refine blk_alloc ?_ _)); exact BK_g2.out)⟩
  clear HB BK_g2 hz_g20 hz_g2f0 hz_g21 hz_g2f1 hz_g22 hz_g2f2
  refine start_ (n := 11) (S := fun w' => w'.cell? ad = some (.int .i64 x.f0) ∧ w'.cell? ⟨ad.block, ad.off + 1, none⟩ = some (.int .i64 x.f1)) (ds := [10]) #[false, false, false, false, false, false, false, false, false, false, false] (by kernel_rfl) rfl rfl ⟨((show Below w.heap.size w _ from (by repeat (first | (with_reducible first | exact HB0.out | apply below_alloc | apply pw_below_drewN | apply below_drew1) | exact HB0.out))).cell (World.block_lt_of_cell? w _ hq0.out)).trans hq0.out, ((show Below w.heap.size w _ from (by repeat (first | (with_reducible first | exact HB0.out | apply below_alloc | apply pw_below_drewN | apply below_drew1) | exact HB0.out))).cell (World.block_lt_of_cell? w _ hq1.out)).trans hq1.out⟩ (fun hHeld => ?_)
  generalize w1.drew = w8x at HB0 B20 hHeld ⊢
  refine pure_ (i := 0) (N := some 5) (v := ?_) (a' := ?_) #[true, false, false, false, false, false, false, false, false, false, false] rfl rfl (by kernel_rfl) (fun _ _ _ h => h) (Or.inl ⟨by rfl, ?_⟩) ?_ ?_
  rotate_left
  · intro w'
    first | (go_simp; with_reducible rfl) | (simp [go_sem, Instr.field, asAgg] <;> with_reducible rfl)
  rotate_left
  · simp only [Act.put, List.setIfInBounds_toArray, List.set_cons_zero, List.set_cons_succ, i64_w, i32_w]
    rfl
  refine pure_ (i := 1) (N := some 6) (v := ?_) (a' := ?_) #[true, true, false, false, false, false, false, false, false, false, false] rfl rfl (by kernel_rfl) (fun _ _ _ h => h) (Or.inl ⟨by rfl, ?_⟩) ?_ ?_
  rotate_left
  · intro w'
    first | (go_simp; with_reducible rfl) | (simp [go_sem, Instr.field, asAgg] <;> with_reducible rfl)
  rotate_left
  · simp only [Act.put, List.setIfInBounds_toArray, List.set_cons_zero, List.set_cons_succ, i64_w, i32_w]
    rfl
  refine pure_ (i := 2) (N := some 7) (v := ?_) (a' := ?_) #[true, true, true, false, false, false, false, false, false, false, false] rfl rfl (by kernel_rfl) (fun _ _ _ h => h) (Or.inl ⟨by rfl, ?_⟩) ?_ ?_
  rotate_left
  · intro w'
    first | (go_simp; with_reducible rfl) | (simp [go_sem, Instr.field, asAgg] <;> with_reducible rfl)
  rotate_left
  · simp only [Act.put, List.setIfInBounds_toArray, List.set_cons_zero, List.set_cons_succ, i64_w, i32_w]
    rfl
  refine pure_ (i := 4) (N := some 9) (v := ?_) (a' := ?_) #[true, true, true, false, true, false, false, false, false, false, false] rfl rfl (by kernel_rfl) (fun _ _ _ h => h) (Or.inl ⟨by rfl, ?_⟩) ?_ ?_
  rotate_left
  · intro w'
    first | (go_simp; with_reducible rfl) | (simp [go_sem, Instr.field, asAgg] <;> with_reducible rfl)
  rotate_left
  · simp only [Act.put, List.setIfInBounds_toArray, List.set_cons_zero, List.set_cons_succ, i64_w, i32_w]
    rfl
  refine pure_ (i := 5) (N := some 10) (v := ?_) (a' := ?_) #[true, true, true, false, true, true, false, false, false, false, false] rfl rfl (by kernel_rfl) (fun _ _ _ h => h) (Or.inl ⟨by rfl, ?_⟩) ?_ ?_
  rotate_left
  · intro w'
    first | (go_simp; with_reducible rfl) | (simp [go_sem, Instr.field, asAgg] <;> with_reducible rfl)
  rotate_left
  · simp only [Act.put, List.setIfInBounds_toArray, List.set_cons_zero, List.set_cons_succ, i64_w, i32_w]
    rfl
  refine pure_ (i := 6) (N := some 11) (v := ?_) (a' := ?_) #[true, true, true, false, true, true, true, false, false, false, false] rfl rfl (by kernel_rfl) (fun _ _ _ h => h) (Or.inl ⟨by rfl, ?_⟩) ?_ ?_
  rotate_left
  · intro w'
    first | (go_simp; with_reducible rfl) | (simp [go_sem, Instr.field, asAgg] <;> with_reducible rfl)
  rotate_left
  · simp only [Act.put, List.setIfInBounds_toArray, List.set_cons_zero, List.set_cons_succ, i64_w, i32_w]
    rfl
  refine take_ (i := 3) (N := some 8) (v := ?_) (a' := ?_) #[true, true, true, true, true, true, true, false, false, false, false] rfl rfl (by kernel_rfl) (fun _ _ _ h => h) (Or.inl ⟨by rfl, ?_⟩) hHeld ?_ ?_
  rotate_left
  · rintro w' ⟨s0, s1⟩
    go_simp
    with_reducible rfl
  rotate_left
  · simp only [Act.put, List.setIfInBounds_toArray, List.set_cons_zero, List.set_cons_succ, i64_w, i32_w]
    rfl
  refine take_ (i := 7) (N := some 12) (v := ?_) (a' := ?_) #[true, true, true, true, true, true, true, true, false, false, false] rfl rfl (by kernel_rfl) (fun _ _ _ h => h) (Or.inl ⟨by rfl, ?_⟩) hHeld ?_ ?_
  rotate_left
  · rintro w' ⟨s0, s1⟩
    go_simp
    with_reducible rfl
  rotate_left
  · simp only [Act.put, List.setIfInBounds_toArray, List.set_cons_zero, List.set_cons_succ, i64_w, i32_w]
    rfl
  refine pure_ (i := 8) (N := some 13) (v := ?_) (a' := ?_) #[true, true, true, true, true, true, true, true, true, false, false] rfl rfl (by kernel_rfl) (fun _ _ _ h => h) (Or.inl ⟨by rfl, ?_⟩) ?_ ?_
  rotate_left
  · intro w'
    first | (go_simp; with_reducible rfl) | (simp [go_sem, Instr.field, asAgg] <;> with_reducible rfl)
  rotate_left
  · simp only [Act.put, List.setIfInBounds_toArray, List.set_cons_zero, List.set_cons_succ, i64_w, i32_w]
    rfl
  refine one_ (i := 9) (N := some 3) #[true, true, true, true, true, true, true, true, true, true, false] rfl rfl (by kernel_rfl) (by decide) (fun K hK => ?_)
  refine box_step ?hw (N := 3) ?hd (cs := #[.int .i64 0, .int .i64 0, .slice none 0 0]) (t := 29) ?hr ?_
  (case hw => rfl)
  (case hd => rfl)
  (case hr => first | (go_simp; done) | (go_simp; rfl))
  intro g3 hg w3 hbox hb
  have GW_g3 := Aside0.mk ((by rw [hg]; exact below_size (by repeat (first | (with_reducible first | exact HB0.out | apply below_alloc | apply pw_below_drewN | apply below_drew1) | exact HB0.out))) : w.heap.size ≤ g3)
  have HLT : Aside0 (g2 < g3) := ⟨by rw [hg]; exact blk_lt (o := .cells #[.int .i64 0, .int .i64 0, .slice none 0 0] 29 (0, 0)) (by (with_reducible repeat (first | refine blk_drewN ?_ _ | refine blk_drew ?_ | refine blk_alloc ?_ _)); exact B20.out)⟩
  have B30 := Aside0.mk hbox
  clear hbox hg
  have n0_ := Aside0.mk (below_step (by repeat (first | (with_reducible first | exact HB0.out | apply below_alloc | apply pw_below_drewN | apply below_drew1) | exact HB0.out)) hb)
  have n1_ := Aside0.mk (blk_below (g := g2) (o := .cells #[.int .i64 0, .int .i64 0, .slice none 0 0] 29 (0, 0)) (by (with_reducible repeat (first | refine blk_drewN ?_ _ | refine blk_drew ?_ | refine blk_alloc ?_ _)); exact B20.out) hb)
  clear HB0 B20
  have HB0 := n0_
  have B20 := n1_
  clear n0_ n1_ hb
  have hz_g30 : w3.cell? ⟨g3, 0, none⟩ = some (.int .i64 0) := (blk_cell B30.out 0).trans rfl
  have hz_g3f0 := blk_frozen B30.out 0
  have hz_g31 : w3.cell? ⟨g3, 1, none⟩ = some (.int .i64 0) := (blk_cell B30.out 1).trans rfl
  have hz_g3f1 := blk_frozen B30.out 1
  have hz_g32 : w3.cell? ⟨g3, 2, none⟩ = some (.slice none 0 0) := (blk_cell B30.out 2).trans rfl
  have hz_g3f2 := blk_frozen B30.out 2
  refine hK.out _ _ ⟨((show Below w.heap.size w _ from (by repeat (first | (with_reducible first | exact HB0.out | apply below_alloc | apply pw_below_drewN | apply below_drew1) | exact HB0.out))).cell (World.block_lt_of_cell? w _ hq0.out)).trans hq0.out, ((show Below w.heap.size w _ from (by repeat (first | (with_reducible first | exact HB0.out | apply below_alloc | apply pw_below_drewN | apply below_drew1) | exact HB0.out))).cell (World.block_lt_of_cell? w _ hq1.out)).trans hq1.out⟩ (fun hHeld => ?_)
  clear hK K
  refine norm_ (a' := ?_) ?_ ?_
  rotate_left
  · show Act.put _ (some 3) _ = _
    simp only [Act.put, List.setIfInBounds_toArray, List.set_cons_zero, List.set_cons_succ, i64_w, i32_w]
    rfl
  refine last_ (i := 10) (N := none) #[true, true, true, true, true, true, true, true, true, true, true] rfl rfl (by kernel_rfl) (by decide) (fun K hK => ?_)
  refine skip_ (w1 := ?_) (by rfl) rfl ?_ ?_
  rotate_left
  · go_simp
    rfl
  refine hK.out _ _ ?_
  clear hK K
  refine done_ (by kernel_rfl) ?_
  (try clear hHeld)
  clear hz_g30 hz_g3f0 hz_g31 hz_g3f1 hz_g32 hz_g3f2
  have hn23 : g2 ≠ g3 := by have := HLT.out; omega
  (try go_wp2)
  go_loopg [4] k (fun kq v4 w' => ∃ (i : Int) (out : List S29) (u : Value), v4 = .int .i64 i ∧ Aside0 (spec_l02Own.l0 kq x out i = some y) ∧ Aside0 (kq ≤ k) ∧ Aside0 (Kd.S kG 29 w' w.heap.size (fun k_ => g3 < k_) u out) ∧ Aside0 (w'.heap[g3]? = some (.cells #[.int .i64 x.f0, .int .i64 x.f1, u] 29 (0, 0))) ∧ Aside0 (w'.heap[g2]? = some (.cells #[.int .i64 0, .int .i64 0, .slice none 0 0] 29 (0, 0))) ∧ Aside0 (Below w.heap.size w w'))
  case atStart => exact ⟨0, [], _, rfl, A1, ⟨Nat.le_refl _⟩, ⟨Kd.S_nil _ _ _ _ _⟩, ⟨(by (with_reducible repeat (first | refine blk_drewN ?_ _ | refine blk_drew ?_ | refine blk_alloc ?_ _)); refine blk_put (cs := #[.int .i64 x.f0, .int .i64 x.f1, .slice none 0 0]) ?_ 2 _ rfl; (with_reducible repeat (first | refine blk_drewN ?_ _ | refine blk_drew ?_ | refine blk_alloc ?_ _)); refine blk_put (cs := #[.int .i64 x.f0, .int .i64 0, .slice none 0 0]) ?_ 1 _ rfl; (with_reducible repeat (first | refine blk_drewN ?_ _ | refine blk_drew ?_ | refine blk_alloc ?_ _)); refine blk_put (cs := #[.int .i64 0, .int .i64 0, .slice none 0 0]) ?_ 0 _ rfl; (with_reducible repeat (first | refine blk_drewN ?_ _ | refine blk_drew ?_ | refine blk_alloc ?_ _)); exact B30.out)⟩, ⟨(by first | exact B20.out | (refine blk_far ?_ hn23 _; refine blk_far ?_ hn23 _; refine blk_far ?_ hn23 _; exact B20.out))⟩, ⟨(by repeat (first | (with_reducible first | exact HB0.out | apply below_alloc | apply pw_below_drewN | apply below_drew1 | refine below_set ?_ GW_g3.out) | exact HB0.out))⟩⟩
  case round =>
    clear A1 B30 B20 HB0
    obtain ⟨i, out, u, rfl, HA, HK1, HO, B30, B20, HB0⟩ := hrel
    obtain ⟨Ao, co, eo⟩ := Kd.S_slice HO.out
    subst eo
    have hx2 : wr.cell? ⟨ad.block, ad.off + 2, none⟩ = some (.slice A x.f2.length c) := (HB0.out.cell (World.block_lt_of_cell? w _ hq2.out)).trans hq2.out
    have hz_g30 : wr.cell? ⟨g3, 0, none⟩ = some (.int .i64 x.f0) := (blk_cell B30.out 0).trans rfl
    have hz_g3f0 := blk_frozen B30.out 0
    have hz_g31 : wr.cell? ⟨g3, 1, none⟩ = some (.int .i64 x.f1) := (blk_cell B30.out 1).trans rfl
    have hz_g3f1 := blk_frozen B30.out 1
    have hz_g32 : wr.cell? ⟨g3, 2, none⟩ = some (.slice Ao out.length co) := (blk_cell B30.out 2).trans rfl
    have hz_g3f2 := blk_frozen B30.out 2
    have hz_g20 : wr.cell? ⟨g2, 0, none⟩ = some (.int .i64 0) := (blk_cell B20.out 0).trans rfl
    have hz_g2f0 := blk_frozen B20.out 0
    have hz_g21 : wr.cell? ⟨g2, 1, none⟩ = some (.int .i64 0) := (blk_cell B20.out 1).trans rfl
    have hz_g2f1 := blk_frozen B20.out 1
    have hz_g22 : wr.cell? ⟨g2, 2, none⟩ = some (.slice none 0 0) := (blk_cell B20.out 2).trans rfl
    have hz_g2f2 := blk_frozen B20.out 2
    cases gk with
    | zero => exact absurd HA.out (by simp [spec_l02Own.l0])
    | succ k1 =>
      have H' := HA.out
      clear HA
      simp only [spec_l02Own.l0] at H'
      by_cases c6 : i < (x.f2.length : Int)
      · rw [if_pos c6] at H'
        by_cases c7 : 0 ≤ i
        case neg => rw [if_neg c7] at H'; exact absurd H' (by simp)
        rw [if_pos c7] at H'
        replace H' := Option.bind_eq_some_iff.mp H'
        obtain ⟨t, At, H'⟩ := H'
        have A7 := Aside0.mk At
        clear At
        by_cases c8 : out.length < 1048576
        case neg => rw [if_neg c8] at H'; exact absurd H' (by simp)
        rw [if_pos c8] at H'
        have LM := Aside0.mk c8
        have HF := Aside0.mk H'
        clear H' c8
        have c6b0 : decide (i < (x.f2.length : Int)) = true := decide_eq_true c6
        have c7b0 : decide (0 ≤ i) = true := decide_eq_true c7
        obtain ⟨ad2, A2, c2, e2, _⟩ := at_T29 HC.out i c7 c6
        cases e2
        have HE := Aside0.mk (gate_el HC.out i c7 c6)
        replace c7 := eq_true c7
        replace c6 := eq_true c6
        obtain ⟨NO, hNO⟩ : ∃ n : Nat, n = wr.heap.size := ⟨_, rfl⟩
        have HNO := Aside0.mk hNO
        have HLN : Aside0 (g3 < NO) := ⟨by rw [hNO]; exact blk_lt B30.out⟩
        clear hNO
        go_wp2
        have HB1 : Aside0 (Below w.heap.size w wr.drew) := ⟨(by repeat (first | (with_reducible first | exact HB0.out | apply below_alloc | apply pw_below_drewN | apply below_drew1) | exact HB0.out))⟩
        have B31 : Aside0 (wr.drew.heap[g3]? = some (.cells #[.int .i64 x.f0, .int .i64 x.f1, .slice Ao out.length co] 29 (0, 0))) := ⟨(by (with_reducible repeat (first | refine blk_drewN ?_ _ | refine blk_drew ?_ | refine blk_alloc ?_ _)); exact B30.out)⟩
        have B21 : Aside0 (wr.drew.heap[g2]? = some (.cells #[.int .i64 0, .int .i64 0, .slice none 0 0] 29 (0, 0))) := ⟨(by (with_reducible repeat (first | refine blk_drewN ?_ _ | refine blk_drew ?_ | refine blk_alloc ?_ _)); exact B20.out)⟩
        have HO1 : Aside0 (Kd.S kG 29 wr.drew w.heap.size (fun k_ => g3 < k_ ∧ k_ < NO) (.slice Ao out.length co) out) := ⟨(by (with_reducible repeat (first | apply Kd.S_alloc | apply Kd.S_drewN | apply Kd.S_drew)); exact (Kd.S_mono (Kd.S_bound HO.out) (fun k_ hk_ => ⟨hk_.1, by rw [HNO.out]; exact hk_.2.2.1⟩)))⟩
        have HNS : Aside0 (NO ≤ wr.drew.heap.size) := ⟨by rw [HNO.out]; exact Nat.le_refl _⟩
        clear HB0 B30 B20 HO hx2 hz_g30 hz_g3f0 hz_g31 hz_g3f1 hz_g32 hz_g3f2 hz_g20 hz_g2f0 hz_g21 hz_g2f1 hz_g22 hz_g2f2
        refine start_ (n := 13) (S := fun w' => w'.cell? ⟨g3, 2, none⟩ = some (.slice Ao out.length co) ∧ w'.cell? ⟨ad.block, ad.off + 2, none⟩ = some (.slice (some ad2) x.f2.length c)) (ds := [10, 12]) #[false, false, false, false, false, false, false, false, false, false, false, false, false] (by kernel_rfl) rfl rfl ⟨(blk_cell (by (with_reducible repeat (first | refine blk_drewN ?_ _ | refine blk_drew ?_ | refine blk_alloc ?_ _)); exact B31.out) 2).trans rfl, ((show Below w.heap.size w _ from (by repeat (first | (with_reducible first | exact HB1.out | apply below_alloc | apply pw_below_drewN | apply below_drew1) | exact HB1.out))).cell (World.block_lt_of_cell? w _ hq2.out)).trans hq2.out⟩ (fun hHeld => ?_)
        generalize wr.drew = w8x at HB1 B31 B21 HO1 HNS hHeld ⊢
        refine pure_ (i := 0) (N := some 23) (v := ?_) (a' := ?_) #[true, false, false, false, false, false, false, false, false, false, false, false, false] rfl rfl (by kernel_rfl) (fun _ _ _ h => h) (Or.inl ⟨by rfl, ?_⟩) ?_ ?_
        rotate_left
        · intro w'
          first | (go_simp; with_reducible rfl) | (simp [go_sem, Instr.field, asAgg] <;> with_reducible rfl)
        rotate_left
        · simp only [Act.put, List.setIfInBounds_toArray, List.set_cons_zero, List.set_cons_succ, i64_w, i32_w]
          rfl
        refine pure_ (i := 2) (N := some 25) (v := ?_) (a' := ?_) #[true, false, true, false, false, false, false, false, false, false, false, false, false] rfl rfl (by kernel_rfl) (fun _ _ _ h => h) (Or.inl ⟨by rfl, ?_⟩) ?_ ?_
        rotate_left
        · intro w'
          first | (go_simp; with_reducible rfl) | (simp [go_sem, Instr.field, asAgg] <;> with_reducible rfl)
        rotate_left
        · simp only [Act.put, List.setIfInBounds_toArray, List.set_cons_zero, List.set_cons_succ, i64_w, i32_w]
          rfl
        refine pure_ (i := 3) (N := some 26) (v := ?_) (a' := ?_) #[true, false, true, true, false, false, false, false, false, false, false, false, false] rfl rfl (by kernel_rfl) (fun _ _ _ h => h) (Or.inl ⟨by rfl, ?_⟩) ?_ ?_
        rotate_left
        · intro w'
          first | (go_simp; with_reducible rfl) | (simp [go_sem, Instr.field, asAgg] <;> with_reducible rfl)
        rotate_left
        · simp only [Act.put, List.setIfInBounds_toArray, List.set_cons_zero, List.set_cons_succ, i64_w, i32_w]
          rfl
        refine pure_ (i := 4) (N := some 27) (v := ?_) (a' := ?_) #[true, false, true, true, true, false, false, false, false, false, false, false, false] rfl rfl (by kernel_rfl) (fun _ _ _ h => h) (Or.inl ⟨by rfl, ?_⟩) ?_ ?_
        rotate_left
        · intro w'
          first | (go_simp; with_reducible rfl) | (simp [go_sem, Instr.field, asAgg] <;> with_reducible rfl)
        rotate_left
        · simp only [Act.put, List.setIfInBounds_toArray, List.set_cons_zero, List.set_cons_succ, i64_w, i32_w]
          rfl
        refine pure_ (i := 6) (N := some 29) (v := ?_) (a' := ?_) #[true, false, true, true, true, false, true, false, false, false, false, false, false] rfl rfl (by kernel_rfl) (fun _ _ _ h => h) (Or.inl ⟨by rfl, ?_⟩) ?_ ?_
        rotate_left
        · intro w'
          first | (go_simp; with_reducible rfl) | (simp [go_sem, Instr.field, asAgg] <;> with_reducible rfl)
        rotate_left
        · simp only [Act.put, List.setIfInBounds_toArray, List.set_cons_zero, List.set_cons_succ, i64_w, i32_w]
          rfl
        refine take_ (i := 1) (N := some 24) (v := ?_) (a' := ?_) #[true, true, true, true, true, false, true, false, false, false, false, false, false] rfl rfl (by kernel_rfl) (fun _ _ _ h => h) (Or.inl ⟨by rfl, ?_⟩) hHeld ?_ ?_
        rotate_left
        · rintro w' ⟨s0, s1⟩
          go_simp
          with_reducible rfl
        rotate_left
        · simp only [Act.put, List.setIfInBounds_toArray, List.set_cons_zero, List.set_cons_succ, i64_w, i32_w]
          rfl
        refine take_ (i := 5) (N := some 28) (v := ?_) (a' := ?_) #[true, true, true, true, true, true, true, false, false, false, false, false, false] rfl rfl (by kernel_rfl) (fun _ _ _ h => h) (Or.inl ⟨by rfl, ?_⟩) hHeld ?_ ?_
        rotate_left
        · rintro w' ⟨s0, s1⟩
          go_simp
          with_reducible rfl
        rotate_left
        · simp only [Act.put, List.setIfInBounds_toArray, List.set_cons_zero, List.set_cons_succ, i64_w, i32_w]
          rfl
        refine pure_ (i := 7) (N := some 30) (v := ?_) (a' := ?_) #[true, true, true, true, true, true, true, true, false, false, false, false, false] rfl rfl (by kernel_rfl) (fun _ _ _ h => h) (Or.inl ⟨by rfl, ?_⟩) ?_ ?_
        rotate_left
        · intro w'
          first | (go_simp; with_reducible rfl) | (simp [go_sem, Instr.field, asAgg] <;> with_reducible rfl)
        rotate_left
        · simp only [Act.put, List.setIfInBounds_toArray, List.set_cons_zero, List.set_cons_succ, i64_w, i32_w]
          rfl
        refine one_ (i := 8) (N := some 31) #[true, true, true, true, true, true, true, true, true, false, false, false, false] rfl rfl (by kernel_rfl) (by decide) (fun K hK => ?_)
        refine goes_ Try.func90 (by kernel_rfl) rfl #[.pointer (some (ad2.add (i.toNat * 3)))] (by rfl) rfl rfl (by simp only [List.map_toArray, List.map_cons, List.map_nil]; rfl) ?_
        with_reducible refine (IH.out k1 (by have := HK1.out; omega) _ (rd_T29 x.f2 i) t _ (Kd.C_below HE.out HB1.out) A7.out).mono ?_
        rintro e w6 ⟨v, rfl, hS, hb⟩
        refine ⟨_, rfl, ?_⟩
        have HSv := Aside0.mk (Kd.S_lower (base' := w.heap.size) (Kd.S_mono (Kd.S_bound hS) (ok' := fun k_ => NO ≤ k_) (fun k_ hk_ => Nat.le_trans (by exact HNS.out) hk_.2.1)) (below_size HB1.out))
        obtain ⟨Av, cv, ev_⟩ := Kd.S_slice HSv.out
        subst ev_
        clear hS
        have n0_ := Aside0.mk (below_step (by repeat (first | (with_reducible first | exact HB1.out | apply below_alloc | apply pw_below_drewN | apply below_drew1) | exact HB1.out)) hb)
        have n1_ := Aside0.mk (blk_below (g := g2) (o := .cells #[.int .i64 0, .int .i64 0, .slice none 0 0] 29 (0, 0)) (by (with_reducible repeat (first | refine blk_drewN ?_ _ | refine blk_drew ?_ | refine blk_alloc ?_ _)); exact B21.out) hb)
        have n2_ := Aside0.mk (blk_below (g := g3) (o := .cells #[.int .i64 x.f0, .int .i64 x.f1, .slice Ao out.length co] 29 (0, 0)) (by (with_reducible repeat (first | refine blk_drewN ?_ _ | refine blk_drew ?_ | refine blk_alloc ?_ _)); exact B31.out) hb)
        have n3_ := Aside0.mk (Kd.S_below (by (with_reducible repeat (first | apply Kd.S_alloc | apply Kd.S_drewN | apply Kd.S_drew)); exact HO1.out) hb)
        have n4_ := Aside0.mk (Nat.le_trans (by exact HNS.out) (below_size hb))
        clear HB1 B21 B31 HO1 HNS
        have HB1 := n0_
        have B21 := n1_
        have B31 := n2_
        have HO1 := n3_
        have HNS := n4_
        clear n0_ n1_ n2_ n3_ n4_ hb
        refine hK.out _ _ ⟨(blk_cell (by (with_reducible repeat (first | refine blk_drewN ?_ _ | refine blk_drew ?_ | refine blk_alloc ?_ _)); exact B31.out) 2).trans rfl, ((show Below w.heap.size w _ from (by repeat (first | (with_reducible first | exact HB1.out | apply below_alloc | apply pw_below_drewN | apply below_drew1) | exact HB1.out))).cell (World.block_lt_of_cell? w _ hq2.out)).trans hq2.out⟩ (fun hHeld => ?_)
        clear hK K
        refine norm_ (a' := ?_) ?_ ?_
        rotate_left
        · show Act.put _ (some 31) _ = _
          simp only [Act.put, List.setIfInBounds_toArray, List.set_cons_zero, List.set_cons_succ, i64_w, i32_w]
          rfl
        refine one_ (i := 9) (N := some 32) #[true, true, true, true, true, true, true, true, true, true, false, false, false] rfl rfl (by kernel_rfl) (by decide) (fun K hK => ?_)
        refine value_ (w1 := ?_) (v := ?_) (by rfl) rfl ?_ ?_
        rotate_left 2
        · go_simp
          constructor
          · rfl
          · rfl
        refine hK.out _ _ ⟨(blk_cell (by (with_reducible repeat (first | refine blk_drewN ?_ _ | refine blk_drew ?_ | refine blk_alloc ?_ _)); exact B31.out) 2).trans rfl, ((show Below w.heap.size w _ from (by repeat (first | (with_reducible first | exact HB1.out | apply below_alloc | apply pw_below_drewN | apply below_drew1) | exact HB1.out))).cell (World.block_lt_of_cell? w _ hq2.out)).trans hq2.out⟩ (fun hHeld => ?_)
        clear hK K
        refine norm_ (a' := ?_) ?_ ?_
        rotate_left
        · show Act.put _ (some 32) _ = _
          simp only [Act.put, List.setIfInBounds_toArray, List.set_cons_zero, List.set_cons_succ, i64_w, i32_w]
          rfl
        refine last_ (i := 10) (N := some 33) #[true, true, true, true, true, true, true, true, true, true, true, false, false] rfl rfl (by kernel_rfl) (by decide) (fun K hK => ?_)
        refine Kd.S_append_step kG (w0 := w) w.heap.size (by rfl) (.tmp 24) (.tmp 32) 27 29 (.agg #[.int .i64 0, .int .i64 0, .slice none 0 0]) 40 rfl Try.underlying27 info29 rfl (by decide) (by omega) (.slice Ao out.length co) out t [.int .i64 t.f0, .int .i64 t.f1, .slice Av t.f2.length cv] (fun k_ => g3 < k_) (fun k_ => NO ≤ k_) rfl rfl ?aP ?aK ?aF ?aO ?aB ?aS ?aL ?_
        (case aP => exact kG_mkM (x := t) HSv.out)
        (case aK => exact fun k_ hk_ => ⟨Nat.lt_of_lt_of_le HLN.out hk_, fun e_ => by have h_ := ((Kd.S_R HO1.out).1 k_ e_.symm).2; omega⟩)
        (case aF => exact fun k_ hk_ => Nat.lt_of_lt_of_le (blk_lt B31.out) hk_)
        (case aO => exact Kd.S_mono HO1.out (fun k_ hk_ => ⟨hk_.1, Nat.not_le.2 hk_.2⟩))
        (case aB => exact HB1.out)
        (case aS => exact below_size HB1.out)
        (case aL => have := LM.out; omega)
        intro v7b w7 ho hb hg hat
        have hown : ∀ k_, (.slice Ao out.length co : Value).ownBlock = some k_ → g3 < k_ := fun k_ e_ => ((Kd.S_R HO1.out).1 k_ e_).1
        have n1_ := Aside0.mk (blk_grown (g := g2) (o := .cells #[.int .i64 0, .int .i64 0, .slice none 0 0] 29 (0, 0)) B21.out hg (fun e_ => by have := hown _ e_.symm; have := HLT.out; omega))
        have n2_ := Aside0.mk (blk_grown (g := g3) (o := .cells #[.int .i64 x.f0, .int .i64 x.f1, .slice Ao out.length co] 29 (0, 0)) B31.out hg (fun e_ => by have := hown _ e_.symm; omega))
        obtain ⟨Ap, cp, ep⟩ := Kd.S_slice ho
        subst ep
        rw [show (out ++ [t]).length = out.length + 1 by simp] at ho
        clear hg hat hown HO1 B21 B31 HB1 HSv HNS
        have HO8 := Aside0.mk ho
        have HB8 := Aside0.mk hb
        have B28 := n1_
        have B38 := n2_
        clear n1_ n2_ ho hb
        have hz_g30 : w7.cell? ⟨g3, 0, none⟩ = some (.int .i64 x.f0) := (blk_cell B38.out 0).trans rfl
        have hz_g3f0 := blk_frozen B38.out 0
        have hz_g31 : w7.cell? ⟨g3, 1, none⟩ = some (.int .i64 x.f1) := (blk_cell B38.out 1).trans rfl
        have hz_g3f1 := blk_frozen B38.out 1
        have hz_g32 : w7.cell? ⟨g3, 2, none⟩ = some (.slice Ao out.length co) := (blk_cell B38.out 2).trans rfl
        have hz_g3f2 := blk_frozen B38.out 2
        refine hK.out _ _ ?_
        clear hK K
        refine norm_ (a' := ?_) ?_ ?_
        rotate_left
        · show Act.put _ (some 33) _ = _
          simp only [Act.put, List.setIfInBounds_toArray, List.set_cons_zero, List.set_cons_succ, i64_w, i32_w]
          rfl
        refine pure_ (i := 11) (N := some 34) (v := ?_) (a' := ?_) #[true, true, true, true, true, true, true, true, true, true, true, true, false] rfl rfl (by kernel_rfl) (fun _ _ _ h => h) (Or.inl ⟨by rfl, ?_⟩) ?_ ?_
        rotate_left
        · intro w'
          first | (go_simp; with_reducible rfl) | (simp [go_sem, Instr.field, asAgg] <;> with_reducible rfl)
        rotate_left
        · simp only [Act.put, List.setIfInBounds_toArray, List.set_cons_zero, List.set_cons_succ, i64_w, i32_w]
          rfl
        refine last_ (i := 12) (N := none) #[true, true, true, true, true, true, true, true, true, true, true, true, true] rfl rfl (by kernel_rfl) (by decide) (fun K hK => ?_)
        refine skip_ (w1 := ?_) (by rfl) rfl ?_ ?_
        rotate_left
        · go_simp
          rfl
        refine hK.out _ _ ?_
        clear hK K
        refine done_ (by kernel_rfl) ?_
        (try clear hHeld)
        (try go_wp2)
        go_roundg k1
        case measure => have := HK1.out; omega
        case rel => exact ⟨_, out ++ [t], _, rfl, HF, ⟨by have := HK1.out; omega⟩, ⟨Kd.S_far (p := ⟨g3, 2, none⟩) HO8.out (fun k_ hk_ => by have h_ : g3 < k_ := hk_; show k_ ≠ g3; omega) _⟩, ⟨blk_put B38.out 2 _ rfl⟩, ⟨(by first | exact B28.out | (refine blk_far ?_ hn23 _; exact B28.out))⟩, ⟨(by repeat (first | (with_reducible first | exact HB8.out | apply below_alloc | apply pw_below_drewN | apply below_drew1 | refine below_set ?_ GW_g3.out) | exact HB8.out))⟩⟩
      · rw [if_neg c6] at H'
        obtain rfl := Option.some.inj H'
        clear H'
        have c6b0 : decide (i < (x.f2.length : Int)) = false := decide_eq_false c6
        clear c6
        go_wp2
        refine bodyPost_ret (results_cell_row rfl _ _ g2 29 #[.int .i64 x.f0, .int .i64 x.f1, .slice Ao out.length co] (0, 0) _ rfl (by (with_reducible repeat (first | refine blk_drewN ?_ _ | refine blk_drew ?_ | refine blk_alloc ?_ _)); refine blk_put (cs := #[.int .i64 x.f0, .int .i64 x.f1, .slice none 0 0]) ?_ 2 _ rfl; (with_reducible repeat (first | refine blk_drewN ?_ _ | refine blk_drew ?_ | refine blk_alloc ?_ _)); refine blk_put (cs := #[.int .i64 x.f0, .int .i64 0, .slice none 0 0]) ?_ 1 _ rfl; (with_reducible repeat (first | refine blk_drewN ?_ _ | refine blk_drew ?_ | refine blk_alloc ?_ _)); refine blk_put (cs := #[.int .i64 0, .int .i64 0, .slice none 0 0]) ?_ 0 _ rfl; (with_reducible repeat (first | refine blk_drewN ?_ _ | refine blk_drew ?_ | refine blk_alloc ?_ _)); exact B20.out) Try.underlying29 rfl (by kernel_rfl)) rfl ?_
        exact ⟨_, rfl, Kd.S_mono (Kd.S_far (p := ⟨g2, 2, none⟩) (Kd.S_far (p := ⟨g2, 1, none⟩) (Kd.S_far (p := ⟨g2, 0, none⟩) HO.out (fun k_ hk_ => by have h_ : g3 < k_ := hk_; have := HLT.out; show k_ ≠ g2; omega) _) (fun k_ hk_ => by have h_ : g3 < k_ := hk_; have := HLT.out; show k_ ≠ g2; omega) _) (fun k_ hk_ => by have h_ : g3 < k_ := hk_; have := HLT.out; show k_ ≠ g2; omega) _) (fun _ _ => trivial), (by repeat (first | (with_reducible first | exact HB0.out | apply below_alloc | apply pw_below_drewN | apply below_drew1 | refine below_set ?_ GW_g2.out) | exact HB0.out))⟩

end Go.Proofs.Ytjnobnmjhpmpfaa.P

namespace Go.Proofs.Ytjnobnmjhpmpfaa.P
open Go.RowKit Go.Proofs.YtjnobnmjhpmpfaaW.PrintWords Go.Proofs.YtjnobnmjhpmpfaaW.PrintLast Go.Proofs.YtjnobnmjhpmpfaaW.PrintMore
attribute [local go_sem] max2_int min2_int max_two min_two max_three min_three max_four min_four
set_option linter.unusedVariables false
set_option linter.unusedSimpArgs false

/-! ### spec_l02Put: function 74 (by hand) -/
mutual
def spec_l02Put.l0 : Nat → S29 → Int → S29 → List S29 → Int → Int → Option (S29 × Int)
  | 0, _, _, _, _, _, _ => none
  | k + 1, x, h, b, out, l, i => if i < (x.f2.length : Int) then (if l ≥ 0 then (if 0 ≤ i then ((spec_l02Put.f k (rd_T29 x.f2 i) h b l).bind fun t => if out.length < 1048576 then spec_l02Put.l0 k x h b (out ++ [t.1]) t.2 (wrap64 (i + 1)) else none) else none) else some (⟨x.f0, x.f1, out⟩, l)) else some (⟨x.f0, x.f1, out⟩, l)
def spec_l02Put.f : Nat → S29 → Int → S29 → Int → Option (S29 × Int)
  | 0, _, _, _, _ => none
  | k + 1, x, h, b, l => if (x.f2.length : Int) = 0 then (if x.f0 = h then ((spec_l02Size.f k b).bind fun z => if wrap64 (l - z) < 0 then some (⟨0, 0, []⟩, wrap64 (l - z)) else ((spec_l02Own.f k b).bind fun y => some (y, wrap64 (l - z)))) else spec_l02Put.l0 k x h b [] (wrap64 (l - 1)) 0) else spec_l02Put.l0 k x h b [] (wrap64 (l - 1)) 0
end
set_option maxHeartbeats 8000000 in
set_option maxRecDepth 100000 in
theorem spec_l02Put.calls (k : Nat) : ∀ (ad ap : Addr) (gL : Nat) (x b : S29) (h l l2 : Int) (y : S29) (w0 w : World) (hB : Below w0.heap.size w0 w) (hp : Kd.C k29 w0 (some ad) 1 [x]) (hq : Kd.C k29 w0 (some ap) 1 [b]) (hg : w0.heap.size ≤ gL) (hL : w.heap[gL]? = some (.cells #[.int .i64 l] 2 (0, 0))) (h_ : spec_l02Put.f k x h b l = some (y, l2)),
    Calls Try.prog 74 #[.pointer (some ad), .int .i64 h, .pointer (some ap), .pointer (some ⟨gL, 0, none⟩)] w fun e w' => ∃ v, e = .returned (.agg #[.int .i64 y.f0, .int .i64 y.f1, v]) ∧ Kd.S kG 29 w' w.heap.size (fun _ => True) v y.f2 ∧ Below w0.heap.size w0 w' ∧ Kept w w' (fun k_ => k_ = gL) ∧ w'.heap[gL]? = some (.cells #[.int .i64 l2] 2 (0, 0)) := by
  induction k using Nat.strongRecOn with
  | _ k ih =>
  intro ad ap gL x b h l l2 y w0 w hB hp hq hg hL h_
  cases k with
  | zero => exact absurd h_ (by simp [spec_l02Put.f])
  | succ k =>
  simp only [spec_l02Put.f] at h_
  obtain ⟨A, c, hx0, hx1, hx2, hl, hC⟩ := gate_at hp
  have hq0 := Aside0.mk hx0
  have hq1 := Aside0.mk hx1
  have hq2 := Aside0.mk hx2
  have HC := Aside0.mk hC
  have HQ := Aside0.mk hq
  have HGL := Aside0.mk hg
  have BL := Aside0.mk hL
  have IH := Aside0.mk ih
  have HB := Aside0.mk hB
  have HS0 : Aside0 (w0.heap.size ≤ w.heap.size) := ⟨below_size hB⟩
  have hu29 := Try.underlying29
  clear hp hC hl ih hB hq hg hL hx0 hx1 hx2
  by_cases c0 : (x.f2.length : Int) = 0
  · rw [if_pos c0] at h_
    have c0b : ((x.f2.length : Int) == 0) = true := beq_iff_eq.mpr c0
    replace c0 := Aside0.mk c0
    by_cases c1 : x.f0 = h
    · rw [if_pos c1] at h_
      replace h_ := Option.bind_eq_some_iff.mp h_
      obtain ⟨z, At, H⟩ := h_
      have Az := Aside0.mk At
      clear At
      have c1b : (x.f0 == h) = true := beq_iff_eq.mpr c1
      replace c1 := Aside0.mk c1
      by_cases c2 : wrap64 (l - z) < 0
      · rw [if_pos c2] at H
        obtain ⟨rfl, rfl⟩ := Prod.mk.inj (Option.some.inj H)
        clear H
        have c2b : decide (wrap64 (l - z) < 0) = true := decide_eq_true c2
        replace c2 := Aside0.mk c2
        go_enter Try.func74, Try.ntmps74
        go_wp2_with (first | ((with_reducible refine gate_dst (N := 8) rfl ?_); refine box_event ?hg (N := 8) ?hd (cs := #[.int .i64 0, .int .i64 0, .slice none 0 0]) (t := 29) ?hr ?_; (case hd => rfl); (case hg => rfl); (case hr => first | (go_simp; done) | (go_simp; rfl)); intro g8 hg w1 hbox hb; have n0_ := Aside0.mk (below_step HB.out hb); have n1_ := Aside0.mk (Kept.of_below hb (fun k_ => k_ = gL)); have n2_ := Aside0.mk (blk_below (g := gL) (o := .cells #[.int .i64 l] 2 (0, 0)) BL.out hb); have GW_g8 := Aside0.mk (show w.heap.size ≤ g8 by rw [hg]; exact Nat.le_refl _); have HLG : Aside0 (gL < g8) := ⟨by rw [hg]; exact blk_lt BL.out⟩; have hx0 : w1.cell? ad = some (.int .i64 x.f0) := (n0_.out.cell (World.block_lt_of_cell? w0 _ hq0.out)).trans hq0.out; have hx2 : w1.cell? ⟨ad.block, ad.off + 2, none⟩ = some (.slice A x.f2.length c) := (n0_.out.cell (World.block_lt_of_cell? w0 _ hq2.out)).trans hq2.out; clear HB BL; have HB := n0_; have HK := n1_; have BL := n2_; clear n0_ n1_ n2_; have B8 := Aside0.mk hbox; clear hbox hb hg; have hz_80 : w1.cell? ⟨g8, 0, none⟩ = some (.int .i64 0) := (blk_cell B8.out 0).trans rfl; have hz_8f0 := blk_frozen B8.out 0; have hz_81 : w1.cell? ⟨g8, 1, none⟩ = some (.int .i64 0) := (blk_cell B8.out 1).trans rfl; have hz_8f1 := blk_frozen B8.out 1; have hz_82 : w1.cell? ⟨g8, 2, none⟩ = some (.slice none 0 0) := (blk_cell B8.out 2).trans rfl; have hz_8f2 := blk_frozen B8.out 2; have hz_L0 : w1.cell? ⟨gL, 0, none⟩ = some (.int .i64 l) := (blk_cell BL.out 0).trans rfl; have hz_Lf0 := blk_frozen BL.out 0))
        have HB0 : Aside0 (Below w0.heap.size w0 w1.drew) := ⟨(by repeat (first | (with_reducible first | exact HB.out | apply below_alloc | apply pw_below_drewN | apply below_drew1) | exact HB.out))⟩
        have HK0 : Aside0 (Kept w w1.drew (fun k_ => k_ = gL)) := ⟨(by repeat (first | exact HK.out | apply Kept.alloc | apply Kept.drewN | apply Kept.drew))⟩
        have B80 : Aside0 (w1.drew.heap[g8]? = some (.cells #[.int .i64 0, .int .i64 0, .slice none 0 0] 29 (0, 0))) := ⟨(by (with_reducible repeat (first | refine blk_drewN ?_ _ | refine blk_drew ?_ | refine blk_alloc ?_ _)); exact B8.out)⟩
        have BL0 : Aside0 (w1.drew.heap[gL]? = some (.cells #[.int .i64 l] 2 (0, 0))) := ⟨(by (with_reducible repeat (first | refine blk_drewN ?_ _ | refine blk_drew ?_ | refine blk_alloc ?_ _)); exact BL.out)⟩
        clear HB HK B8 BL hz_80 hz_8f0 hz_81 hz_8f1 hz_82 hz_8f2 hz_L0 hz_Lf0
        (try clear hx0 hx2)
        refine start_ (n := 8) (S := fun w' => w'.cell? ⟨gL, 0, none⟩ = some (.int .i64 l)) (ds := [7]) #[false, false, false, false, false, false, false, false] (by kernel_rfl) rfl rfl ((blk_cell (by (with_reducible repeat (first | refine blk_drewN ?_ _ | refine blk_drew ?_ | refine blk_alloc ?_ _)); exact BL0.out) 0).trans rfl) (fun hHeld => ?_)
        generalize w1.drew = w8x at HB0 HK0 B80 BL0 hHeld ⊢
        refine pure_ (i := 0) (N := some 25) (v := ?_) (a' := ?_) #[true, false, false, false, false, false, false, false] rfl rfl (by kernel_rfl) (fun _ _ _ h => h) (Or.inl ⟨by rfl, ?_⟩) ?_ ?_
        rotate_left
        · intro w'
          first | (go_simp; with_reducible rfl) | (simp [go_sem, Instr.field, asAgg] <;> with_reducible rfl)
        rotate_left
        · simp only [Act.put, List.setIfInBounds_toArray, List.set_cons_zero, List.set_cons_succ, i64_w, i32_w]
          rfl
        refine pure_ (i := 1) (N := some 26) (v := ?_) (a' := ?_) #[true, true, false, false, false, false, false, false] rfl rfl (by kernel_rfl) (fun _ _ _ h => h) (Or.inl ⟨by rfl, ?_⟩) ?_ ?_
        rotate_left
        · intro w'
          first | (go_simp; with_reducible rfl) | (simp [go_sem, Instr.field, asAgg] <;> with_reducible rfl)
        rotate_left
        · simp only [Act.put, List.setIfInBounds_toArray, List.set_cons_zero, List.set_cons_succ, i64_w, i32_w]
          rfl
        refine pure_ (i := 3) (N := some 28) (v := ?_) (a' := ?_) #[true, true, false, true, false, false, false, false] rfl rfl (by kernel_rfl) (fun _ _ _ h => h) (Or.inl ⟨by rfl, ?_⟩) ?_ ?_
        rotate_left
        · intro w'
          first | (go_simp; with_reducible rfl) | (simp [go_sem, Instr.field, asAgg] <;> with_reducible rfl)
        rotate_left
        · simp only [Act.put, List.setIfInBounds_toArray, List.set_cons_zero, List.set_cons_succ, i64_w, i32_w]
          rfl
        refine take_ (i := 2) (N := some 27) (v := ?_) (a' := ?_) #[true, true, true, true, false, false, false, false] rfl rfl (by kernel_rfl) (fun _ _ _ h => h) (Or.inl ⟨by rfl, ?_⟩) hHeld ?_ ?_
        rotate_left
        · intro w' s0
          go_simp
          with_reducible rfl
        rotate_left
        · simp only [Act.put, List.setIfInBounds_toArray, List.set_cons_zero, List.set_cons_succ, i64_w, i32_w]
          rfl
        refine one_ (i := 4) (N := some 29) #[true, true, true, true, true, false, false, false] rfl rfl (by kernel_rfl) (by decide) (fun K hK => ?_)
        refine goes_ Try.func44 (by kernel_rfl) rfl #[.pointer (some ap)] (by rfl) rfl rfl (by simp only [List.map_toArray, List.map_cons, List.map_nil]; rfl) ?_
        with_reducible refine (spec_l02Size.calls k ap b z _ (Kd.C_below HQ.out HB0.out) Az.out).mono ?_
        rintro e w5 ⟨rfl, ⟨nd1, rfl⟩⟩
        refine ⟨_, rfl, ?_⟩
        refine hK.out _ _ ((blk_cell (by (with_reducible repeat (first | refine blk_drewN ?_ _ | refine blk_drew ?_ | refine blk_alloc ?_ _)); exact BL0.out) 0).trans rfl) (fun hHeld => ?_)
        clear hK K
        refine norm_ (a' := ?_) ?_ ?_
        rotate_left
        · show Act.put _ (some 29) _ = _
          simp only [Act.put, List.setIfInBounds_toArray, List.set_cons_zero, List.set_cons_succ, i64_w, i32_w]
          rfl
        refine pure_ (i := 5) (N := some 30) (v := ?_) (a' := ?_) #[true, true, true, true, true, true, false, false] rfl rfl (by kernel_rfl) (fun _ _ _ h => h) (Or.inl ⟨by rfl, ?_⟩) ?_ ?_
        rotate_left
        · intro w'
          first | (go_simp; with_reducible rfl) | (simp [go_sem, Instr.field, asAgg] <;> with_reducible rfl)
        rotate_left
        · simp only [Act.put, List.setIfInBounds_toArray, List.set_cons_zero, List.set_cons_succ, i64_w, i32_w]
          rfl
        refine pure_ (i := 6) (N := some 31) (v := ?_) (a' := ?_) #[true, true, true, true, true, true, true, false] rfl rfl (by kernel_rfl) (fun _ _ _ h => h) (Or.inl ⟨by rfl, ?_⟩) ?_ ?_
        rotate_left
        · intro w'
          first | (go_simp; with_reducible rfl) | (simp [go_sem, Instr.field, asAgg] <;> with_reducible rfl)
        rotate_left
        · simp only [Act.put, List.setIfInBounds_toArray, List.set_cons_zero, List.set_cons_succ, i64_w, i32_w]
          rfl
        refine last_ (i := 7) (N := none) #[true, true, true, true, true, true, true, true] rfl rfl (by kernel_rfl) (by decide) (fun K hK => ?_)
        have hz_L0 : (w8x.drewN nd1).cell? ⟨gL, 0, none⟩ = some (.int .i64 l) := (blk_cell BL0.out 0).trans rfl
        have hz_Lf0 : (w8x.drewN nd1).frozen? ⟨gL, 0, none⟩ = false := blk_frozen BL0.out 0
        refine skip_ (w1 := ?_) (by rfl) rfl ?_ ?_
        rotate_left
        · go_simp
          rfl
        refine hK.out _ _ ?_
        clear hK K
        refine done_ (by kernel_rfl) ?_
        (try clear hHeld)
        (try clear hz_L0 hz_Lf0)
        have hn8L : g8 ≠ gL := by have := HLG.out; omega
        have BL1 : Aside0 (((w8x.drewN nd1).setCell ⟨gL, 0, none⟩ (.int .i64 (wrap64 (l - z)))).heap[gL]? = some (.cells #[.int .i64 (wrap64 (l - z))] 2 (0, 0))) := ⟨blk_put BL0.out 0 _ rfl⟩
        have B81 : Aside0 (((w8x.drewN nd1).setCell ⟨gL, 0, none⟩ (.int .i64 (wrap64 (l - z)))).heap[g8]? = some (.cells #[.int .i64 0, .int .i64 0, .slice none 0 0] 29 (0, 0))) := ⟨blk_far B80.out hn8L _⟩
        have HB1 : Aside0 (Below w0.heap.size w0 ((w8x.drewN nd1).setCell ⟨gL, 0, none⟩ (.int .i64 (wrap64 (l - z))))) := ⟨below_set (pw_below_drewN HB0.out nd1) HGL.out⟩
        have HK1 : Aside0 (Kept w ((w8x.drewN nd1).setCell ⟨gL, 0, none⟩ (.int .i64 (wrap64 (l - z)))) (fun k_ => k_ = gL)) := ⟨Kept.setCell (Kept.drewN HK0.out nd1) (.inl rfl) _⟩
        clear HB0 HK0 B80 BL0
        generalize ((w8x.drewN nd1).setCell ⟨gL, 0, none⟩ (.int .i64 (wrap64 (l - z)))) = w2x at HB1 HK1 B81 BL1 ⊢
        have hz_L0 : w2x.cell? ⟨gL, 0, none⟩ = some (.int .i64 (wrap64 (l - z))) := (blk_cell BL1.out 0).trans rfl
        have hz_Lf0 := blk_frozen BL1.out 0
        have hz_80 : w2x.cell? ⟨g8, 0, none⟩ = some (.int .i64 0) := (blk_cell B81.out 0).trans rfl
        have hz_8f0 := blk_frozen B81.out 0
        have hz_81 : w2x.cell? ⟨g8, 1, none⟩ = some (.int .i64 0) := (blk_cell B81.out 1).trans rfl
        have hz_8f1 := blk_frozen B81.out 1
        have hz_82 : w2x.cell? ⟨g8, 2, none⟩ = some (.slice none 0 0) := (blk_cell B81.out 2).trans rfl
        have hz_8f2 := blk_frozen B81.out 2
        go_wp2
        have hg0 : w0.heap.size ≤ g8 := by have := HS0.out; have := GW_g8.out; omega
        have hnL8 : gL ≠ g8 := by have := HLG.out; omega
        refine bodyPost_ret (results_cell_row rfl _ _ g8 29 #[.int .i64 0, .int .i64 0, .slice none 0 0] (0, 0) _ rfl (by (with_reducible repeat (first | refine blk_drewN ?_ _ | refine blk_drew ?_ | refine blk_alloc ?_ _)); refine blk_put (cs := #[.int .i64 0, .int .i64 0, .slice none 0 0]) ?_ 2 _ rfl; (with_reducible repeat (first | refine blk_drewN ?_ _ | refine blk_drew ?_ | refine blk_alloc ?_ _)); refine blk_put (cs := #[.int .i64 0, .int .i64 0, .slice none 0 0]) ?_ 1 _ rfl; (with_reducible repeat (first | refine blk_drewN ?_ _ | refine blk_drew ?_ | refine blk_alloc ?_ _)); refine blk_put (cs := #[.int .i64 0, .int .i64 0, .slice none 0 0]) ?_ 0 _ rfl; (with_reducible repeat (first | refine blk_drewN ?_ _ | refine blk_drew ?_ | refine blk_alloc ?_ _)); exact B81.out) Try.underlying29 rfl (by kernel_rfl)) rfl ?_
        exact ⟨_, rfl, Kd.S_nil _ _ _ _ _, (by repeat (first | (with_reducible first | exact HB1.out | apply below_alloc | apply pw_below_drewN | apply below_drew1 | refine below_set ?_ hg0) | exact HB1.out)), Kept.setCell (Kept.setCell (Kept.setCell (by repeat (first | exact HK1.out | apply Kept.alloc | apply Kept.drewN | apply Kept.drew)) (.inr GW_g8.out) _) (.inr GW_g8.out) _) (.inr GW_g8.out) _, blk_far (blk_far (blk_far (by (with_reducible repeat (first | refine blk_drewN ?_ _ | refine blk_drew ?_ | refine blk_alloc ?_ _)); exact BL1.out) hnL8 _) hnL8 _) hnL8 _⟩
      · rw [if_neg c2] at H
        replace H := Option.bind_eq_some_iff.mp H
        obtain ⟨y', At, H⟩ := H
        obtain ⟨rfl, rfl⟩ := Prod.mk.inj (Option.some.inj H)
        have Ay := Aside0.mk At
        clear At H
        have c2b : decide (wrap64 (l - z) < 0) = false := decide_eq_false c2
        replace c2 := Aside0.mk c2
        go_enter Try.func74, Try.ntmps74
        go_wp2_with (first | ((with_reducible refine gate_dst (N := 8) rfl ?_); refine box_event ?hg (N := 8) ?hd (cs := #[.int .i64 0, .int .i64 0, .slice none 0 0]) (t := 29) ?hr ?_; (case hd => rfl); (case hg => rfl); (case hr => first | (go_simp; done) | (go_simp; rfl)); intro g8 hg w1 hbox hb; have n0_ := Aside0.mk (below_step HB.out hb); have n1_ := Aside0.mk (Kept.of_below hb (fun k_ => k_ = gL)); have n2_ := Aside0.mk (blk_below (g := gL) (o := .cells #[.int .i64 l] 2 (0, 0)) BL.out hb); have GW_g8 := Aside0.mk (show w.heap.size ≤ g8 by rw [hg]; exact Nat.le_refl _); have HLG : Aside0 (gL < g8) := ⟨by rw [hg]; exact blk_lt BL.out⟩; have hx0 : w1.cell? ad = some (.int .i64 x.f0) := (n0_.out.cell (World.block_lt_of_cell? w0 _ hq0.out)).trans hq0.out; have hx2 : w1.cell? ⟨ad.block, ad.off + 2, none⟩ = some (.slice A x.f2.length c) := (n0_.out.cell (World.block_lt_of_cell? w0 _ hq2.out)).trans hq2.out; clear HB BL; have HB := n0_; have HK := n1_; have BL := n2_; clear n0_ n1_ n2_; have B8 := Aside0.mk hbox; clear hbox hb hg; have hz_80 : w1.cell? ⟨g8, 0, none⟩ = some (.int .i64 0) := (blk_cell B8.out 0).trans rfl; have hz_8f0 := blk_frozen B8.out 0; have hz_81 : w1.cell? ⟨g8, 1, none⟩ = some (.int .i64 0) := (blk_cell B8.out 1).trans rfl; have hz_8f1 := blk_frozen B8.out 1; have hz_82 : w1.cell? ⟨g8, 2, none⟩ = some (.slice none 0 0) := (blk_cell B8.out 2).trans rfl; have hz_8f2 := blk_frozen B8.out 2; have hz_L0 : w1.cell? ⟨gL, 0, none⟩ = some (.int .i64 l) := (blk_cell BL.out 0).trans rfl; have hz_Lf0 := blk_frozen BL.out 0))
        have HB0 : Aside0 (Below w0.heap.size w0 w1.drew) := ⟨(by repeat (first | (with_reducible first | exact HB.out | apply below_alloc | apply pw_below_drewN | apply below_drew1) | exact HB.out))⟩
        have HK0 : Aside0 (Kept w w1.drew (fun k_ => k_ = gL)) := ⟨(by repeat (first | exact HK.out | apply Kept.alloc | apply Kept.drewN | apply Kept.drew))⟩
        have B80 : Aside0 (w1.drew.heap[g8]? = some (.cells #[.int .i64 0, .int .i64 0, .slice none 0 0] 29 (0, 0))) := ⟨(by (with_reducible repeat (first | refine blk_drewN ?_ _ | refine blk_drew ?_ | refine blk_alloc ?_ _)); exact B8.out)⟩
        have BL0 : Aside0 (w1.drew.heap[gL]? = some (.cells #[.int .i64 l] 2 (0, 0))) := ⟨(by (with_reducible repeat (first | refine blk_drewN ?_ _ | refine blk_drew ?_ | refine blk_alloc ?_ _)); exact BL.out)⟩
        clear HB HK B8 BL hz_80 hz_8f0 hz_81 hz_8f1 hz_82 hz_8f2 hz_L0 hz_Lf0
        (try clear hx0 hx2)
        refine start_ (n := 8) (S := fun w' => w'.cell? ⟨gL, 0, none⟩ = some (.int .i64 l)) (ds := [7]) #[false, false, false, false, false, false, false, false] (by kernel_rfl) rfl rfl ((blk_cell (by (with_reducible repeat (first | refine blk_drewN ?_ _ | refine blk_drew ?_ | refine blk_alloc ?_ _)); exact BL0.out) 0).trans rfl) (fun hHeld => ?_)
        generalize w1.drew = w8x at HB0 HK0 B80 BL0 hHeld ⊢
        refine pure_ (i := 0) (N := some 25) (v := ?_) (a' := ?_) #[true, false, false, false, false, false, false, false] rfl rfl (by kernel_rfl) (fun _ _ _ h => h) (Or.inl ⟨by rfl, ?_⟩) ?_ ?_
        rotate_left
        · intro w'
          first | (go_simp; with_reducible rfl) | (simp [go_sem, Instr.field, asAgg] <;> with_reducible rfl)
        rotate_left
        · simp only [Act.put, List.setIfInBounds_toArray, List.set_cons_zero, List.set_cons_succ, i64_w, i32_w]
          rfl
        refine pure_ (i := 1) (N := some 26) (v := ?_) (a' := ?_) #[true, true, false, false, false, false, false, false] rfl rfl (by kernel_rfl) (fun _ _ _ h => h) (Or.inl ⟨by rfl, ?_⟩) ?_ ?_
        rotate_left
        · intro w'
          first | (go_simp; with_reducible rfl) | (simp [go_sem, Instr.field, asAgg] <;> with_reducible rfl)
        rotate_left
        · simp only [Act.put, List.setIfInBounds_toArray, List.set_cons_zero, List.set_cons_succ, i64_w, i32_w]
          rfl
        refine pure_ (i := 3) (N := some 28) (v := ?_) (a' := ?_) #[true, true, false, true, false, false, false, false] rfl rfl (by kernel_rfl) (fun _ _ _ h => h) (Or.inl ⟨by rfl, ?_⟩) ?_ ?_
        rotate_left
        · intro w'
          first | (go_simp; with_reducible rfl) | (simp [go_sem, Instr.field, asAgg] <;> with_reducible rfl)
        rotate_left
        · simp only [Act.put, List.setIfInBounds_toArray, List.set_cons_zero, List.set_cons_succ, i64_w, i32_w]
          rfl
        refine take_ (i := 2) (N := some 27) (v := ?_) (a' := ?_) #[true, true, true, true, false, false, false, false] rfl rfl (by kernel_rfl) (fun _ _ _ h => h) (Or.inl ⟨by rfl, ?_⟩) hHeld ?_ ?_
        rotate_left
        · intro w' s0
          go_simp
          with_reducible rfl
        rotate_left
        · simp only [Act.put, List.setIfInBounds_toArray, List.set_cons_zero, List.set_cons_succ, i64_w, i32_w]
          rfl
        refine one_ (i := 4) (N := some 29) #[true, true, true, true, true, false, false, false] rfl rfl (by kernel_rfl) (by decide) (fun K hK => ?_)
        refine goes_ Try.func44 (by kernel_rfl) rfl #[.pointer (some ap)] (by rfl) rfl rfl (by simp only [List.map_toArray, List.map_cons, List.map_nil]; rfl) ?_
        with_reducible refine (spec_l02Size.calls k ap b z _ (Kd.C_below HQ.out HB0.out) Az.out).mono ?_
        rintro e w5 ⟨rfl, ⟨nd1, rfl⟩⟩
        refine ⟨_, rfl, ?_⟩
        refine hK.out _ _ ((blk_cell (by (with_reducible repeat (first | refine blk_drewN ?_ _ | refine blk_drew ?_ | refine blk_alloc ?_ _)); exact BL0.out) 0).trans rfl) (fun hHeld => ?_)
        clear hK K
        refine norm_ (a' := ?_) ?_ ?_
        rotate_left
        · show Act.put _ (some 29) _ = _
          simp only [Act.put, List.setIfInBounds_toArray, List.set_cons_zero, List.set_cons_succ, i64_w, i32_w]
          rfl
        refine pure_ (i := 5) (N := some 30) (v := ?_) (a' := ?_) #[true, true, true, true, true, true, false, false] rfl rfl (by kernel_rfl) (fun _ _ _ h => h) (Or.inl ⟨by rfl, ?_⟩) ?_ ?_
        rotate_left
        · intro w'
          first | (go_simp; with_reducible rfl) | (simp [go_sem, Instr.field, asAgg] <;> with_reducible rfl)
        rotate_left
        · simp only [Act.put, List.setIfInBounds_toArray, List.set_cons_zero, List.set_cons_succ, i64_w, i32_w]
          rfl
        refine pure_ (i := 6) (N := some 31) (v := ?_) (a' := ?_) #[true, true, true, true, true, true, true, false] rfl rfl (by kernel_rfl) (fun _ _ _ h => h) (Or.inl ⟨by rfl, ?_⟩) ?_ ?_
        rotate_left
        · intro w'
          first | (go_simp; with_reducible rfl) | (simp [go_sem, Instr.field, asAgg] <;> with_reducible rfl)
        rotate_left
        · simp only [Act.put, List.setIfInBounds_toArray, List.set_cons_zero, List.set_cons_succ, i64_w, i32_w]
          rfl
        refine last_ (i := 7) (N := none) #[true, true, true, true, true, true, true, true] rfl rfl (by kernel_rfl) (by decide) (fun K hK => ?_)
        have hz_L0 : (w8x.drewN nd1).cell? ⟨gL, 0, none⟩ = some (.int .i64 l) := (blk_cell BL0.out 0).trans rfl
        have hz_Lf0 : (w8x.drewN nd1).frozen? ⟨gL, 0, none⟩ = false := blk_frozen BL0.out 0
        refine skip_ (w1 := ?_) (by rfl) rfl ?_ ?_
        rotate_left
        · go_simp
          rfl
        refine hK.out _ _ ?_
        clear hK K
        refine done_ (by kernel_rfl) ?_
        (try clear hHeld)
        (try clear hz_L0 hz_Lf0)
        have hn8L : g8 ≠ gL := by have := HLG.out; omega
        have BL1 : Aside0 (((w8x.drewN nd1).setCell ⟨gL, 0, none⟩ (.int .i64 (wrap64 (l - z)))).heap[gL]? = some (.cells #[.int .i64 (wrap64 (l - z))] 2 (0, 0))) := ⟨blk_put BL0.out 0 _ rfl⟩
        have B81 : Aside0 (((w8x.drewN nd1).setCell ⟨gL, 0, none⟩ (.int .i64 (wrap64 (l - z)))).heap[g8]? = some (.cells #[.int .i64 0, .int .i64 0, .slice none 0 0] 29 (0, 0))) := ⟨blk_far B80.out hn8L _⟩
        have HB1 : Aside0 (Below w0.heap.size w0 ((w8x.drewN nd1).setCell ⟨gL, 0, none⟩ (.int .i64 (wrap64 (l - z))))) := ⟨below_set (pw_below_drewN HB0.out nd1) HGL.out⟩
        have HK1 : Aside0 (Kept w ((w8x.drewN nd1).setCell ⟨gL, 0, none⟩ (.int .i64 (wrap64 (l - z)))) (fun k_ => k_ = gL)) := ⟨Kept.setCell (Kept.drewN HK0.out nd1) (.inl rfl) _⟩
        clear HB0 HK0 B80 BL0
        generalize ((w8x.drewN nd1).setCell ⟨gL, 0, none⟩ (.int .i64 (wrap64 (l - z)))) = w2x at HB1 HK1 B81 BL1 ⊢
        have hz_L0 : w2x.cell? ⟨gL, 0, none⟩ = some (.int .i64 (wrap64 (l - z))) := (blk_cell BL1.out 0).trans rfl
        have hz_Lf0 := blk_frozen BL1.out 0
        have hz_80 : w2x.cell? ⟨g8, 0, none⟩ = some (.int .i64 0) := (blk_cell B81.out 0).trans rfl
        have hz_8f0 := blk_frozen B81.out 0
        have hz_81 : w2x.cell? ⟨g8, 1, none⟩ = some (.int .i64 0) := (blk_cell B81.out 1).trans rfl
        have hz_8f1 := blk_frozen B81.out 1
        have hz_82 : w2x.cell? ⟨g8, 2, none⟩ = some (.slice none 0 0) := (blk_cell B81.out 2).trans rfl
        have hz_8f2 := blk_frozen B81.out 2
        go_wp2_with (first | (go_at_call 90; (with_reducible refine (spec_l02Own.calls k ap b y' _ ?sP Ay.out).mono ?_); (case sP => exact Kd.C_below HQ.out (by repeat (first | (with_reducible first | exact HB1.out | apply below_alloc | apply pw_below_drewN | apply below_drew1) | exact HB1.out))); rintro e w6 ⟨v, rfl, hS, hb⟩; have HSv := Aside0.mk (Kd.S_lower (base' := w.heap.size) (Kd.S_mono (Kd.S_bound hS) (ok' := fun k_ => g8 < k_) (fun k_ hk_ => Nat.lt_of_lt_of_le (blk_lt B81.out) (by exact hk_.2.1))) (show Kept w _ (fun k_ => k_ = gL) from (by repeat (first | exact HK1.out | apply Kept.alloc | apply Kept.drewN | apply Kept.drew))).1); obtain ⟨Av, cv, ev_⟩ := Kd.S_slice HSv.out; subst ev_; have n0_ := Aside0.mk (below_step (by repeat (first | (with_reducible first | exact HB1.out | apply below_alloc | apply pw_below_drewN | apply below_drew1) | exact HB1.out)) hb); have n1_ := Aside0.mk (Kept.below (by repeat (first | exact HK1.out | apply Kept.alloc | apply Kept.drewN | apply Kept.drew)) hb); have n2_ := Aside0.mk (blk_below (g := gL) (o := .cells #[.int .i64 (wrap64 (l - z))] 2 (0, 0)) (by (with_reducible repeat (first | refine blk_drewN ?_ _ | refine blk_drew ?_ | refine blk_alloc ?_ _)); exact BL1.out) hb); have n3_ := Aside0.mk (blk_below (g := g8) (o := .cells #[.int .i64 0, .int .i64 0, .slice none 0 0] 29 (0, 0)) (by (with_reducible repeat (first | refine blk_drewN ?_ _ | refine blk_drew ?_ | refine blk_alloc ?_ _)); exact B81.out) hb); clear HB1 HK1 BL1 B81 hz_80 hz_8f0 hz_81 hz_8f1 hz_82 hz_8f2 hz_L0 hz_Lf0 hS hb; have HB1 := n0_; have HK1 := n1_; have BL1 := n2_; have B81 := n3_; clear n0_ n1_ n2_ n3_; have hz_80 : w6.cell? ⟨g8, 0, none⟩ = some (.int .i64 0) := (blk_cell B81.out 0).trans rfl; have hz_8f0 := blk_frozen B81.out 0; have hz_81 : w6.cell? ⟨g8, 1, none⟩ = some (.int .i64 0) := (blk_cell B81.out 1).trans rfl; have hz_8f1 := blk_frozen B81.out 1; have hz_82 : w6.cell? ⟨g8, 2, none⟩ = some (.slice none 0 0) := (blk_cell B81.out 2).trans rfl; have hz_8f2 := blk_frozen B81.out 2))
        have hg0 : w0.heap.size ≤ g8 := by have := HS0.out; have := GW_g8.out; omega
        have hnL8 : gL ≠ g8 := by have := HLG.out; omega
        refine bodyPost_ret (results_cell_row rfl _ _ g8 29 #[.int .i64 y'.f0, .int .i64 y'.f1, .slice Av y'.f2.length cv] (0, 0) _ rfl (by (with_reducible repeat (first | refine blk_drewN ?_ _ | refine blk_drew ?_ | refine blk_alloc ?_ _)); refine blk_put (cs := #[.int .i64 y'.f0, .int .i64 y'.f1, .slice none 0 0]) ?_ 2 _ rfl; (with_reducible repeat (first | refine blk_drewN ?_ _ | refine blk_drew ?_ | refine blk_alloc ?_ _)); refine blk_put (cs := #[.int .i64 y'.f0, .int .i64 0, .slice none 0 0]) ?_ 1 _ rfl; (with_reducible repeat (first | refine blk_drewN ?_ _ | refine blk_drew ?_ | refine blk_alloc ?_ _)); refine blk_put (cs := #[.int .i64 0, .int .i64 0, .slice none 0 0]) ?_ 0 _ rfl; (with_reducible repeat (first | refine blk_drewN ?_ _ | refine blk_drew ?_ | refine blk_alloc ?_ _)); exact B81.out) Try.underlying29 rfl (by kernel_rfl)) rfl ?_
        exact ⟨_, rfl, Kd.S_mono (Kd.S_far (p := ⟨g8, 2, none⟩) (Kd.S_far (p := ⟨g8, 1, none⟩) (Kd.S_far (p := ⟨g8, 0, none⟩) HSv.out (fun k_ hk_ => by have h_ : g8 < k_ := hk_; show k_ ≠ g8; omega) _) (fun k_ hk_ => by have h_ : g8 < k_ := hk_; show k_ ≠ g8; omega) _) (fun k_ hk_ => by have h_ : g8 < k_ := hk_; show k_ ≠ g8; omega) _) (fun _ _ => trivial), (by repeat (first | (with_reducible first | exact HB1.out | apply below_alloc | apply pw_below_drewN | apply below_drew1 | refine below_set ?_ hg0) | exact HB1.out)), Kept.setCell (Kept.setCell (Kept.setCell (by repeat (first | exact HK1.out | apply Kept.alloc | apply Kept.drewN | apply Kept.drew)) (.inr GW_g8.out) _) (.inr GW_g8.out) _) (.inr GW_g8.out) _, blk_far (blk_far (blk_far (by (with_reducible repeat (first | refine blk_drewN ?_ _ | refine blk_drew ?_ | refine blk_alloc ?_ _)); exact BL1.out) hnL8 _) hnL8 _) hnL8 _⟩
    · rw [if_neg c1] at h_
      have c1b : (x.f0 == h) = false := beq_eq_false_iff_ne.mpr c1
      replace c1 := Aside0.mk c1
      have A1 := Aside0.mk h_
      clear h_
      go_enter Try.func74, Try.ntmps74
      go_wp2_with (first | ((with_reducible refine gate_dst (N := 8) rfl ?_); refine box_event ?hg (N := 8) ?hd (cs := #[.int .i64 0, .int .i64 0, .slice none 0 0]) (t := 29) ?hr ?_; (case hd => rfl); (case hg => rfl); (case hr => first | (go_simp; done) | (go_simp; rfl)); intro g8 hg w1 hbox hb; have n0_ := Aside0.mk (below_step HB.out hb); have n1_ := Aside0.mk (Kept.of_below hb (fun k_ => k_ = gL)); have n2_ := Aside0.mk (blk_below (g := gL) (o := .cells #[.int .i64 l] 2 (0, 0)) BL.out hb); have GW_g8 := Aside0.mk (show w.heap.size ≤ g8 by rw [hg]; exact Nat.le_refl _); have HLG : Aside0 (gL < g8) := ⟨by rw [hg]; exact blk_lt BL.out⟩; have hx0 : w1.cell? ad = some (.int .i64 x.f0) := (n0_.out.cell (World.block_lt_of_cell? w0 _ hq0.out)).trans hq0.out; have hx2 : w1.cell? ⟨ad.block, ad.off + 2, none⟩ = some (.slice A x.f2.length c) := (n0_.out.cell (World.block_lt_of_cell? w0 _ hq2.out)).trans hq2.out; clear HB BL; have HB := n0_; have HK := n1_; have BL := n2_; clear n0_ n1_ n2_; have B8 := Aside0.mk hbox; clear hbox hb hg; have hz_80 : w1.cell? ⟨g8, 0, none⟩ = some (.int .i64 0) := (blk_cell B8.out 0).trans rfl; have hz_8f0 := blk_frozen B8.out 0; have hz_81 : w1.cell? ⟨g8, 1, none⟩ = some (.int .i64 0) := (blk_cell B8.out 1).trans rfl; have hz_8f1 := blk_frozen B8.out 1; have hz_82 : w1.cell? ⟨g8, 2, none⟩ = some (.slice none 0 0) := (blk_cell B8.out 2).trans rfl; have hz_8f2 := blk_frozen B8.out 2; have hz_L0 : w1.cell? ⟨gL, 0, none⟩ = some (.int .i64 l) := (blk_cell BL.out 0).trans rfl; have hz_Lf0 := blk_frozen BL.out 0))
      have hn8L : g8 ≠ gL := by have := HLG.out; omega
      have HB0 : Aside0 (Below w0.heap.size w0 (w1.setCell ⟨gL, 0, none⟩ (.int .i64 (wrap64 (l - 1)))).drew) := ⟨below_drew1 (below_set HB.out HGL.out)⟩
      have HK0 : Aside0 (Kept w (w1.setCell ⟨gL, 0, none⟩ (.int .i64 (wrap64 (l - 1)))).drew (fun k_ => k_ = gL)) := ⟨Kept.setCell HK.out (.inl rfl) _⟩
      have B80 : Aside0 ((w1.setCell ⟨gL, 0, none⟩ (.int .i64 (wrap64 (l - 1)))).drew.heap[g8]? = some (.cells #[.int .i64 0, .int .i64 0, .slice none 0 0] 29 (0, 0))) := ⟨blk_far B8.out hn8L _⟩
      have BL0 : Aside0 ((w1.setCell ⟨gL, 0, none⟩ (.int .i64 (wrap64 (l - 1)))).drew.heap[gL]? = some (.cells #[.int .i64 (wrap64 (l - 1))] 2 (0, 0))) := ⟨blk_put BL.out 0 _ rfl⟩
      clear HB HK B8 BL hz_80 hz_8f0 hz_81 hz_8f1 hz_82 hz_8f2 hz_L0 hz_Lf0
      (try clear hx0 hx2)
      refine start_ (n := 11) (S := fun w' => w'.cell? ad = some (.int .i64 x.f0) ∧ w'.cell? ⟨ad.block, ad.off + 1, none⟩ = some (.int .i64 x.f1)) (ds := [10]) #[false, false, false, false, false, false, false, false, false, false, false] (by kernel_rfl) rfl rfl ⟨((show Below w0.heap.size w0 _ from (by repeat (first | (with_reducible first | exact HB0.out | apply below_alloc | apply pw_below_drewN | apply below_drew1) | exact HB0.out))).cell (World.block_lt_of_cell? w0 _ hq0.out)).trans hq0.out, ((show Below w0.heap.size w0 _ from (by repeat (first | (with_reducible first | exact HB0.out | apply below_alloc | apply pw_below_drewN | apply below_drew1) | exact HB0.out))).cell (World.block_lt_of_cell? w0 _ hq1.out)).trans hq1.out⟩ (fun hHeld => ?_)
      generalize (w1.setCell ⟨gL, 0, none⟩ (.int .i64 (wrap64 (l - 1)))).drew = w8x at HB0 HK0 B80 BL0 hHeld ⊢
      refine pure_ (i := 0) (N := some 44) (v := ?_) (a' := ?_) #[true, false, false, false, false, false, false, false, false, false, false] rfl rfl (by kernel_rfl) (fun _ _ _ h => h) (Or.inl ⟨by rfl, ?_⟩) ?_ ?_
      rotate_left
      · intro w'
        first | (go_simp; with_reducible rfl) | (simp [go_sem, Instr.field, asAgg] <;> with_reducible rfl)
      rotate_left
      · simp only [Act.put, List.setIfInBounds_toArray, List.set_cons_zero, List.set_cons_succ, i64_w, i32_w]
        rfl
      refine pure_ (i := 1) (N := some 45) (v := ?_) (a' := ?_) #[true, true, false, false, false, false, false, false, false, false, false] rfl rfl (by kernel_rfl) (fun _ _ _ h => h) (Or.inl ⟨by rfl, ?_⟩) ?_ ?_
      rotate_left
      · intro w'
        first | (go_simp; with_reducible rfl) | (simp [go_sem, Instr.field, asAgg] <;> with_reducible rfl)
      rotate_left
      · simp only [Act.put, List.setIfInBounds_toArray, List.set_cons_zero, List.set_cons_succ, i64_w, i32_w]
        rfl
      refine pure_ (i := 2) (N := some 46) (v := ?_) (a' := ?_) #[true, true, true, false, false, false, false, false, false, false, false] rfl rfl (by kernel_rfl) (fun _ _ _ h => h) (Or.inl ⟨by rfl, ?_⟩) ?_ ?_
      rotate_left
      · intro w'
        first | (go_simp; with_reducible rfl) | (simp [go_sem, Instr.field, asAgg] <;> with_reducible rfl)
      rotate_left
      · simp only [Act.put, List.setIfInBounds_toArray, List.set_cons_zero, List.set_cons_succ, i64_w, i32_w]
        rfl
      refine pure_ (i := 4) (N := some 48) (v := ?_) (a' := ?_) #[true, true, true, false, true, false, false, false, false, false, false] rfl rfl (by kernel_rfl) (fun _ _ _ h => h) (Or.inl ⟨by rfl, ?_⟩) ?_ ?_
      rotate_left
      · intro w'
        first | (go_simp; with_reducible rfl) | (simp [go_sem, Instr.field, asAgg] <;> with_reducible rfl)
      rotate_left
      · simp only [Act.put, List.setIfInBounds_toArray, List.set_cons_zero, List.set_cons_succ, i64_w, i32_w]
        rfl
      refine pure_ (i := 5) (N := some 49) (v := ?_) (a' := ?_) #[true, true, true, false, true, true, false, false, false, false, false] rfl rfl (by kernel_rfl) (fun _ _ _ h => h) (Or.inl ⟨by rfl, ?_⟩) ?_ ?_
      rotate_left
      · intro w'
        first | (go_simp; with_reducible rfl) | (simp [go_sem, Instr.field, asAgg] <;> with_reducible rfl)
      rotate_left
      · simp only [Act.put, List.setIfInBounds_toArray, List.set_cons_zero, List.set_cons_succ, i64_w, i32_w]
        rfl
      refine pure_ (i := 6) (N := some 50) (v := ?_) (a' := ?_) #[true, true, true, false, true, true, true, false, false, false, false] rfl rfl (by kernel_rfl) (fun _ _ _ h => h) (Or.inl ⟨by rfl, ?_⟩) ?_ ?_
      rotate_left
      · intro w'
        first | (go_simp; with_reducible rfl) | (simp [go_sem, Instr.field, asAgg] <;> with_reducible rfl)
      rotate_left
      · simp only [Act.put, List.setIfInBounds_toArray, List.set_cons_zero, List.set_cons_succ, i64_w, i32_w]
        rfl
      refine take_ (i := 3) (N := some 47) (v := ?_) (a' := ?_) #[true, true, true, true, true, true, true, false, false, false, false] rfl rfl (by kernel_rfl) (fun _ _ _ h => h) (Or.inl ⟨by rfl, ?_⟩) hHeld ?_ ?_
      rotate_left
      · rintro w' ⟨s0, s1⟩
        go_simp
        with_reducible rfl
      rotate_left
      · simp only [Act.put, List.setIfInBounds_toArray, List.set_cons_zero, List.set_cons_succ, i64_w, i32_w]
        rfl
      refine take_ (i := 7) (N := some 51) (v := ?_) (a' := ?_) #[true, true, true, true, true, true, true, true, false, false, false] rfl rfl (by kernel_rfl) (fun _ _ _ h => h) (Or.inl ⟨by rfl, ?_⟩) hHeld ?_ ?_
      rotate_left
      · rintro w' ⟨s0, s1⟩
        go_simp
        with_reducible rfl
      rotate_left
      · simp only [Act.put, List.setIfInBounds_toArray, List.set_cons_zero, List.set_cons_succ, i64_w, i32_w]
        rfl
      refine pure_ (i := 8) (N := some 52) (v := ?_) (a' := ?_) #[true, true, true, true, true, true, true, true, true, false, false] rfl rfl (by kernel_rfl) (fun _ _ _ h => h) (Or.inl ⟨by rfl, ?_⟩) ?_ ?_
      rotate_left
      · intro w'
        first | (go_simp; with_reducible rfl) | (simp [go_sem, Instr.field, asAgg] <;> with_reducible rfl)
      rotate_left
      · simp only [Act.put, List.setIfInBounds_toArray, List.set_cons_zero, List.set_cons_succ, i64_w, i32_w]
        rfl
      refine one_ (i := 9) (N := some 9) #[true, true, true, true, true, true, true, true, true, true, false] rfl rfl (by kernel_rfl) (by decide) (fun K hK => ?_)
      refine box_step ?hw (N := 9) ?hd (cs := #[.int .i64 0, .int .i64 0, .slice none 0 0]) (t := 29) ?hr ?_
      (case hw => rfl)
      (case hd => rfl)
      (case hr => first | (go_simp; done) | (go_simp; rfl))
      intro g9 hg w3 hbox hb
      have GW_g9 := Aside0.mk ((by rw [hg]; exact (show Kept w _ (fun k_ => k_ = gL) from (by repeat (first | exact HK0.out | apply Kept.alloc | apply Kept.drewN | apply Kept.drew))).1) : w.heap.size ≤ g9)
      have HLT : Aside0 (g8 < g9) := ⟨by rw [hg]; exact blk_lt (o := .cells #[.int .i64 0, .int .i64 0, .slice none 0 0] 29 (0, 0)) (by (with_reducible repeat (first | refine blk_drewN ?_ _ | refine blk_drew ?_ | refine blk_alloc ?_ _)); exact B80.out)⟩
      have B90 := Aside0.mk hbox
      clear hbox hg
      have n0_ := Aside0.mk (below_step (by repeat (first | (with_reducible first | exact HB0.out | apply below_alloc | apply pw_below_drewN | apply below_drew1) | exact HB0.out)) hb)
      have n1_ := Aside0.mk (Kept.below (by repeat (first | exact HK0.out | apply Kept.alloc | apply Kept.drewN | apply Kept.drew)) hb)
      have n2_ := Aside0.mk (blk_below (g := g8) (o := .cells #[.int .i64 0, .int .i64 0, .slice none 0 0] 29 (0, 0)) (by (with_reducible repeat (first | refine blk_drewN ?_ _ | refine blk_drew ?_ | refine blk_alloc ?_ _)); exact B80.out) hb)
      have n3_ := Aside0.mk (blk_below (g := gL) (o := .cells #[.int .i64 (wrap64 (l - 1))] 2 (0, 0)) (by (with_reducible repeat (first | refine blk_drewN ?_ _ | refine blk_drew ?_ | refine blk_alloc ?_ _)); exact BL0.out) hb)
      clear HB0 HK0 B80 BL0
      have HB0 := n0_
      have HK0 := n1_
      have B80 := n2_
      have BL0 := n3_
      clear n0_ n1_ n2_ n3_ hb
      have hz_90 : w3.cell? ⟨g9, 0, none⟩ = some (.int .i64 0) := (blk_cell B90.out 0).trans rfl
      have hz_9f0 := blk_frozen B90.out 0
      have hz_91 : w3.cell? ⟨g9, 1, none⟩ = some (.int .i64 0) := (blk_cell B90.out 1).trans rfl
      have hz_9f1 := blk_frozen B90.out 1
      have hz_92 : w3.cell? ⟨g9, 2, none⟩ = some (.slice none 0 0) := (blk_cell B90.out 2).trans rfl
      have hz_9f2 := blk_frozen B90.out 2
      refine hK.out _ _ ⟨((show Below w0.heap.size w0 _ from (by repeat (first | (with_reducible first | exact HB0.out | apply below_alloc | apply pw_below_drewN | apply below_drew1) | exact HB0.out))).cell (World.block_lt_of_cell? w0 _ hq0.out)).trans hq0.out, ((show Below w0.heap.size w0 _ from (by repeat (first | (with_reducible first | exact HB0.out | apply below_alloc | apply pw_below_drewN | apply below_drew1) | exact HB0.out))).cell (World.block_lt_of_cell? w0 _ hq1.out)).trans hq1.out⟩ (fun hHeld => ?_)
      clear hK K
      refine norm_ (a' := ?_) ?_ ?_
      rotate_left
      · show Act.put _ (some 9) _ = _
        simp only [Act.put, List.setIfInBounds_toArray, List.set_cons_zero, List.set_cons_succ, i64_w, i32_w]
        rfl
      refine last_ (i := 10) (N := none) #[true, true, true, true, true, true, true, true, true, true, true] rfl rfl (by kernel_rfl) (by decide) (fun K hK => ?_)
      refine skip_ (w1 := ?_) (by rfl) rfl ?_ ?_
      rotate_left
      · go_simp
        rfl
      refine hK.out _ _ ?_
      clear hK K
      refine done_ (by kernel_rfl) ?_
      (try clear hHeld)
      clear hz_90 hz_9f0 hz_91 hz_9f1 hz_92 hz_9f2
      have hn89 : g8 ≠ g9 := by have := HLT.out; omega
      have hnL9 : gL ≠ g9 := by have := HLT.out; have := HLG.out; omega
      have hg0 : w0.heap.size ≤ g8 := by have := HS0.out; have := GW_g8.out; omega
      have hg9 : w0.heap.size ≤ g9 := by have := HS0.out; have := GW_g9.out; omega
      (try go_wp2)
      go_loopg [10] k (fun kq v10 w' => ∃ (i : Int) (out : List S29) (u : Value) (lq : Int), v10 = .int .i64 i ∧ Aside0 (spec_l02Put.l0 kq x h b out lq i = some (y, l2)) ∧ Aside0 (kq ≤ k) ∧ Aside0 (Kd.S kG 29 w' w.heap.size (fun k_ => g9 < k_) u out) ∧ Aside0 (w'.heap[g9]? = some (.cells #[.int .i64 x.f0, .int .i64 x.f1, u] 29 (0, 0))) ∧ Aside0 (w'.heap[g8]? = some (.cells #[.int .i64 0, .int .i64 0, .slice none 0 0] 29 (0, 0))) ∧ Aside0 (w'.heap[gL]? = some (.cells #[.int .i64 lq] 2 (0, 0))) ∧ Aside0 (Below w0.heap.size w0 w') ∧ Aside0 (Kept w w' (fun k_ => k_ = gL)))
      case atStart => exact ⟨0, [], _, _, rfl, A1, ⟨Nat.le_refl _⟩, ⟨Kd.S_nil _ _ _ _ _⟩, ⟨(by (with_reducible repeat (first | refine blk_drewN ?_ _ | refine blk_drew ?_ | refine blk_alloc ?_ _)); refine blk_put (cs := #[.int .i64 x.f0, .int .i64 x.f1, .slice none 0 0]) ?_ 2 _ rfl; (with_reducible repeat (first | refine blk_drewN ?_ _ | refine blk_drew ?_ | refine blk_alloc ?_ _)); refine blk_put (cs := #[.int .i64 x.f0, .int .i64 0, .slice none 0 0]) ?_ 1 _ rfl; (with_reducible repeat (first | refine blk_drewN ?_ _ | refine blk_drew ?_ | refine blk_alloc ?_ _)); refine blk_put (cs := #[.int .i64 0, .int .i64 0, .slice none 0 0]) ?_ 0 _ rfl; (with_reducible repeat (first | refine blk_drewN ?_ _ | refine blk_drew ?_ | refine blk_alloc ?_ _)); exact B90.out)⟩, ⟨(by first | exact B80.out | (refine blk_far ?_ hn89 _; refine blk_far ?_ hn89 _; refine blk_far ?_ hn89 _; exact B80.out))⟩, ⟨(by first | exact BL0.out | (refine blk_far ?_ hnL9 _; refine blk_far ?_ hnL9 _; refine blk_far ?_ hnL9 _; exact BL0.out))⟩, ⟨(by repeat (first | (with_reducible first | exact HB0.out | apply below_alloc | apply pw_below_drewN | apply below_drew1 | refine below_set ?_ hg9) | exact HB0.out))⟩, ⟨(Kept.setCell (Kept.setCell (Kept.setCell HK0.out (.inr GW_g9.out) _) (.inr GW_g9.out) _) (.inr GW_g9.out) _)⟩⟩
      case round =>
        clear A1 B90 B80 BL0 HB0 HK0
        obtain ⟨i, out, u, lq, rfl, HA, HK1, HO, B90, B80, BL0, HB0, HK0⟩ := hrel
        obtain ⟨Ao, co, eo⟩ := Kd.S_slice HO.out
        subst eo
        have hx2 : wr.cell? ⟨ad.block, ad.off + 2, none⟩ = some (.slice A x.f2.length c) := (HB0.out.cell (World.block_lt_of_cell? w0 _ hq2.out)).trans hq2.out
        have hz_90 : wr.cell? ⟨g9, 0, none⟩ = some (.int .i64 x.f0) := (blk_cell B90.out 0).trans rfl
        have hz_9f0 := blk_frozen B90.out 0
        have hz_91 : wr.cell? ⟨g9, 1, none⟩ = some (.int .i64 x.f1) := (blk_cell B90.out 1).trans rfl
        have hz_9f1 := blk_frozen B90.out 1
        have hz_92 : wr.cell? ⟨g9, 2, none⟩ = some (.slice Ao out.length co) := (blk_cell B90.out 2).trans rfl
        have hz_9f2 := blk_frozen B90.out 2
        have hz_80 : wr.cell? ⟨g8, 0, none⟩ = some (.int .i64 0) := (blk_cell B80.out 0).trans rfl
        have hz_8f0 := blk_frozen B80.out 0
        have hz_81 : wr.cell? ⟨g8, 1, none⟩ = some (.int .i64 0) := (blk_cell B80.out 1).trans rfl
        have hz_8f1 := blk_frozen B80.out 1
        have hz_82 : wr.cell? ⟨g8, 2, none⟩ = some (.slice none 0 0) := (blk_cell B80.out 2).trans rfl
        have hz_8f2 := blk_frozen B80.out 2
        have hz_L0 : wr.cell? ⟨gL, 0, none⟩ = some (.int .i64 lq) := (blk_cell BL0.out 0).trans rfl
        have hz_Lf0 := blk_frozen BL0.out 0
        cases gk with
        | zero => exact absurd HA.out (by simp [spec_l02Put.l0])
        | succ k1 =>
          have H' := HA.out
          clear HA
          simp only [spec_l02Put.l0] at H'
          by_cases c6 : i < (x.f2.length : Int)
          · rw [if_pos c6] at H'
            have c6b0 : decide (i < (x.f2.length : Int)) = true := decide_eq_true c6
            by_cases c5 : lq ≥ 0
            · rw [if_pos c5] at H'
              have c5b : decide (lq ≥ 0) = true := decide_eq_true c5
              have c5c : decide (0 ≤ lq) = true := decide_eq_true c5
              replace c5 := Aside0.mk c5
              by_cases c7 : 0 ≤ i
              case neg => rw [if_neg c7] at H'; exact absurd H' (by simp)
              rw [if_pos c7] at H'
              replace H' := Option.bind_eq_some_iff.mp H'
              obtain ⟨⟨t, tl⟩, At, H'⟩ := H'
              have A7 := Aside0.mk At
              clear At
              by_cases c8 : out.length < 1048576
              case neg => rw [if_neg c8] at H'; exact absurd H' (by simp)
              rw [if_pos c8] at H'
              have LM := Aside0.mk c8
              have HF := Aside0.mk H'
              clear H' c8
              have c7b0 : decide (0 ≤ i) = true := decide_eq_true c7
              obtain ⟨ad2, A2, c2, e2, _⟩ := at_T29 HC.out i c7 c6
              cases e2
              have HE := Aside0.mk (gate_el HC.out i c7 c6)
              replace c7 := eq_true c7
              replace c6 := eq_true c6
              obtain ⟨NO, hNO⟩ : ∃ n : Nat, n = wr.heap.size := ⟨_, rfl⟩
              have HNO := Aside0.mk hNO
              have HLN : Aside0 (g9 < NO) := ⟨by rw [hNO]; exact blk_lt B90.out⟩
              clear hNO
              go_wp2
              have HB1 : Aside0 (Below w0.heap.size w0 wr.drew) := ⟨(by repeat (first | (with_reducible first | exact HB0.out | apply below_alloc | apply pw_below_drewN | apply below_drew1) | exact HB0.out))⟩
              have HKw : Aside0 (Kept w wr.drew (fun k_ => k_ = gL)) := ⟨(by repeat (first | exact HK0.out | apply Kept.alloc | apply Kept.drewN | apply Kept.drew))⟩
              have B91 : Aside0 (wr.drew.heap[g9]? = some (.cells #[.int .i64 x.f0, .int .i64 x.f1, .slice Ao out.length co] 29 (0, 0))) := ⟨(by (with_reducible repeat (first | refine blk_drewN ?_ _ | refine blk_drew ?_ | refine blk_alloc ?_ _)); exact B90.out)⟩
              have B81 : Aside0 (wr.drew.heap[g8]? = some (.cells #[.int .i64 0, .int .i64 0, .slice none 0 0] 29 (0, 0))) := ⟨(by (with_reducible repeat (first | refine blk_drewN ?_ _ | refine blk_drew ?_ | refine blk_alloc ?_ _)); exact B80.out)⟩
              have BL1 : Aside0 (wr.drew.heap[gL]? = some (.cells #[.int .i64 lq] 2 (0, 0))) := ⟨(by (with_reducible repeat (first | refine blk_drewN ?_ _ | refine blk_drew ?_ | refine blk_alloc ?_ _)); exact BL0.out)⟩
              have HO1 : Aside0 (Kd.S kG 29 wr.drew w.heap.size (fun k_ => g9 < k_ ∧ k_ < NO) (.slice Ao out.length co) out) := ⟨(by (with_reducible repeat (first | apply Kd.S_alloc | apply Kd.S_drewN | apply Kd.S_drew)); exact (Kd.S_mono (Kd.S_bound HO.out) (fun k_ hk_ => ⟨hk_.1, by rw [HNO.out]; exact hk_.2.2.1⟩)))⟩
              have HNS : Aside0 (NO ≤ wr.drew.heap.size) := ⟨by rw [HNO.out]; exact Nat.le_refl _⟩
              clear HB0 HK0 B90 B80 BL0 HO hx2 hz_90 hz_9f0 hz_91 hz_9f1 hz_92 hz_9f2 hz_80 hz_8f0 hz_81 hz_8f1 hz_82 hz_8f2 hz_L0 hz_Lf0
              refine start_ (n := 16) (S := fun w' => w'.cell? ⟨g9, 2, none⟩ = some (.slice Ao out.length co) ∧ w'.cell? ⟨ad.block, ad.off + 2, none⟩ = some (.slice (some ad2) x.f2.length c)) (ds := [13, 15]) #[false, false, false, false, false, false, false, false, false, false, false, false, false, false, false, false] (by kernel_rfl) rfl rfl ⟨(blk_cell (by (with_reducible repeat (first | refine blk_drewN ?_ _ | refine blk_drew ?_ | refine blk_alloc ?_ _)); exact B91.out) 2).trans rfl, ((show Below w0.heap.size w0 _ from (by repeat (first | (with_reducible first | exact HB1.out | apply below_alloc | apply pw_below_drewN | apply below_drew1) | exact HB1.out))).cell (World.block_lt_of_cell? w0 _ hq2.out)).trans hq2.out⟩ (fun hHeld => ?_)
              generalize wr.drew = w8x at HB1 HKw B91 B81 BL1 HO1 HNS hHeld ⊢
              refine pure_ (i := 0) (N := some 68) (v := ?_) (a' := ?_) #[true, false, false, false, false, false, false, false, false, false, false, false, false, false, false, false] rfl rfl (by kernel_rfl) (fun _ _ _ h => h) (Or.inl ⟨by rfl, ?_⟩) ?_ ?_
              rotate_left
              · intro w'
                first | (go_simp; with_reducible rfl) | (simp [go_sem, Instr.field, asAgg] <;> with_reducible rfl)
              rotate_left
              · simp only [Act.put, List.setIfInBounds_toArray, List.set_cons_zero, List.set_cons_succ, i64_w, i32_w]
                rfl
              refine pure_ (i := 2) (N := some 70) (v := ?_) (a' := ?_) #[true, false, true, false, false, false, false, false, false, false, false, false, false, false, false, false] rfl rfl (by kernel_rfl) (fun _ _ _ h => h) (Or.inl ⟨by rfl, ?_⟩) ?_ ?_
              rotate_left
              · intro w'
                first | (go_simp; with_reducible rfl) | (simp [go_sem, Instr.field, asAgg] <;> with_reducible rfl)
              rotate_left
              · simp only [Act.put, List.setIfInBounds_toArray, List.set_cons_zero, List.set_cons_succ, i64_w, i32_w]
                rfl
              refine pure_ (i := 3) (N := some 71) (v := ?_) (a' := ?_) #[true, false, true, true, false, false, false, false, false, false, false, false, false, false, false, false] rfl rfl (by kernel_rfl) (fun _ _ _ h => h) (Or.inl ⟨by rfl, ?_⟩) ?_ ?_
              rotate_left
              · intro w'
                first | (go_simp; with_reducible rfl) | (simp [go_sem, Instr.field, asAgg] <;> with_reducible rfl)
              rotate_left
              · simp only [Act.put, List.setIfInBounds_toArray, List.set_cons_zero, List.set_cons_succ, i64_w, i32_w]
                rfl
              refine pure_ (i := 4) (N := some 72) (v := ?_) (a' := ?_) #[true, false, true, true, true, false, false, false, false, false, false, false, false, false, false, false] rfl rfl (by kernel_rfl) (fun _ _ _ h => h) (Or.inl ⟨by rfl, ?_⟩) ?_ ?_
              rotate_left
              · intro w'
                first | (go_simp; with_reducible rfl) | (simp [go_sem, Instr.field, asAgg] <;> with_reducible rfl)
              rotate_left
              · simp only [Act.put, List.setIfInBounds_toArray, List.set_cons_zero, List.set_cons_succ, i64_w, i32_w]
                rfl
              refine pure_ (i := 6) (N := some 74) (v := ?_) (a' := ?_) #[true, false, true, true, true, false, true, false, false, false, false, false, false, false, false, false] rfl rfl (by kernel_rfl) (fun _ _ _ h => h) (Or.inl ⟨by rfl, ?_⟩) ?_ ?_
              rotate_left
              · intro w'
                first | (go_simp; with_reducible rfl) | (simp [go_sem, Instr.field, asAgg] <;> with_reducible rfl)
              rotate_left
              · simp only [Act.put, List.setIfInBounds_toArray, List.set_cons_zero, List.set_cons_succ, i64_w, i32_w]
                rfl
              refine pure_ (i := 8) (N := some 76) (v := ?_) (a' := ?_) #[true, false, true, true, true, false, true, false, true, false, false, false, false, false, false, false] rfl rfl (by kernel_rfl) (fun _ _ _ h => h) (Or.inl ⟨by rfl, ?_⟩) ?_ ?_
              rotate_left
              · intro w'
                first | (go_simp; with_reducible rfl) | (simp [go_sem, Instr.field, asAgg] <;> with_reducible rfl)
              rotate_left
              · simp only [Act.put, List.setIfInBounds_toArray, List.set_cons_zero, List.set_cons_succ, i64_w, i32_w]
                rfl
              refine pure_ (i := 9) (N := some 77) (v := ?_) (a' := ?_) #[true, false, true, true, true, false, true, false, true, true, false, false, false, false, false, false] rfl rfl (by kernel_rfl) (fun _ _ _ h => h) (Or.inl ⟨by rfl, ?_⟩) ?_ ?_
              rotate_left
              · intro w'
                first | (go_simp; with_reducible rfl) | (simp [go_sem, Instr.field, asAgg] <;> with_reducible rfl)
              rotate_left
              · simp only [Act.put, List.setIfInBounds_toArray, List.set_cons_zero, List.set_cons_succ, i64_w, i32_w]
                rfl
              refine pure_ (i := 10) (N := some 78) (v := ?_) (a' := ?_) #[true, false, true, true, true, false, true, false, true, true, true, false, false, false, false, false] rfl rfl (by kernel_rfl) (fun _ _ _ h => h) (Or.inl ⟨by rfl, ?_⟩) ?_ ?_
              rotate_left
              · intro w'
                first | (go_simp; with_reducible rfl) | (simp [go_sem, Instr.field, asAgg] <;> with_reducible rfl)
              rotate_left
              · simp only [Act.put, List.setIfInBounds_toArray, List.set_cons_zero, List.set_cons_succ, i64_w, i32_w]
                rfl
              refine take_ (i := 1) (N := some 69) (v := ?_) (a' := ?_) #[true, true, true, true, true, false, true, false, true, true, true, false, false, false, false, false] rfl rfl (by kernel_rfl) (fun _ _ _ h => h) (Or.inl ⟨by rfl, ?_⟩) hHeld ?_ ?_
              rotate_left
              · rintro w' ⟨s0, s1⟩
                go_simp
                with_reducible rfl
              rotate_left
              · simp only [Act.put, List.setIfInBounds_toArray, List.set_cons_zero, List.set_cons_succ, i64_w, i32_w]
                rfl
              refine take_ (i := 5) (N := some 73) (v := ?_) (a' := ?_) #[true, true, true, true, true, true, true, false, true, true, true, false, false, false, false, false] rfl rfl (by kernel_rfl) (fun _ _ _ h => h) (Or.inl ⟨by rfl, ?_⟩) hHeld ?_ ?_
              rotate_left
              · rintro w' ⟨s0, s1⟩
                go_simp
                with_reducible rfl
              rotate_left
              · simp only [Act.put, List.setIfInBounds_toArray, List.set_cons_zero, List.set_cons_succ, i64_w, i32_w]
                rfl
              refine pure_ (i := 7) (N := some 75) (v := ?_) (a' := ?_) #[true, true, true, true, true, true, true, true, true, true, true, false, false, false, false, false] rfl rfl (by kernel_rfl) (fun _ _ _ h => h) (Or.inl ⟨by rfl, ?_⟩) ?_ ?_
              rotate_left
              · intro w'
                first | (go_simp; with_reducible rfl) | (simp [go_sem, Instr.field, asAgg] <;> with_reducible rfl)
              rotate_left
              · simp only [Act.put, List.setIfInBounds_toArray, List.set_cons_zero, List.set_cons_succ, i64_w, i32_w]
                rfl
              refine one_ (i := 11) (N := some 79) #[true, true, true, true, true, true, true, true, true, true, true, true, false, false, false, false] rfl rfl (by kernel_rfl) (by decide) (fun K hK => ?_)
              refine goes_ Try.func74 (by kernel_rfl) rfl #[.pointer (some (ad2.add (i.toNat * 3))), .int .i64 h, .pointer (some ap), .pointer (some ⟨gL, 0, none⟩)] (by rfl) rfl rfl (by simp only [List.map_toArray, List.map_cons, List.map_nil]; rfl) ?_
              with_reducible refine (IH.out k1 (by have := HK1.out; omega) _ ap gL (rd_T29 x.f2 i) b h lq tl t w0 _ HB1.out HE.out HQ.out HGL.out BL1.out A7.out).mono ?_
              rintro e w6 ⟨v, rfl, hS, hb, hk, hL⟩
              refine ⟨_, rfl, ?_⟩
              have HSv := Aside0.mk (Kd.S_lower (base' := w.heap.size) (Kd.S_mono (Kd.S_bound hS) (ok' := fun k_ => NO ≤ k_) (fun k_ hk_ => Nat.le_trans (by exact HNS.out) hk_.2.1)) HKw.out.1)
              obtain ⟨Av, cv, ev_⟩ := Kd.S_slice HSv.out
              subst ev_
              clear hS
              have n1_ := Aside0.mk (Kept.then_ HKw.out hk (fun _ h_ => .inl h_))
              have n2_ := Aside0.mk (blk_kept (g := g9) (o := .cells #[.int .i64 x.f0, .int .i64 x.f1, .slice Ao out.length co] 29 (0, 0)) B91.out hk (fun h_ => hnL9 h_.symm))
              have n3_ := Aside0.mk (blk_kept (g := g8) (o := .cells #[.int .i64 0, .int .i64 0, .slice none 0 0] 29 (0, 0)) B81.out hk (fun h_ => hn8L h_))
              have n4_ := Aside0.mk (Kd.S_kept HO1.out hk (fun k_ hk_ h_ => by have h1_ := hk_.1; have h2_ : k_ = gL := h_; have := HLT.out; have := HLG.out; omega))
              have n5_ := Aside0.mk (Nat.le_trans HNS.out hk.1)
              clear HB1 HKw B91 B81 BL1 HO1 HNS hk
              have HB1 := Aside0.mk hb
              have BL1 := Aside0.mk hL
              have HKw := n1_
              have B91 := n2_
              have B81 := n3_
              have HO1 := n4_
              have HNS := n5_
              clear n1_ n2_ n3_ n4_ n5_ hb hL
              refine hK.out _ _ ⟨(blk_cell (by (with_reducible repeat (first | refine blk_drewN ?_ _ | refine blk_drew ?_ | refine blk_alloc ?_ _)); exact B91.out) 2).trans rfl, ((show Below w0.heap.size w0 _ from (by repeat (first | (with_reducible first | exact HB1.out | apply below_alloc | apply pw_below_drewN | apply below_drew1) | exact HB1.out))).cell (World.block_lt_of_cell? w0 _ hq2.out)).trans hq2.out⟩ (fun hHeld => ?_)
              clear hK K
              refine norm_ (a' := ?_) ?_ ?_
              rotate_left
              · show Act.put _ (some 79) _ = _
                simp only [Act.put, List.setIfInBounds_toArray, List.set_cons_zero, List.set_cons_succ, i64_w, i32_w]
                rfl
              refine one_ (i := 12) (N := some 80) #[true, true, true, true, true, true, true, true, true, true, true, true, true, false, false, false] rfl rfl (by kernel_rfl) (by decide) (fun K hK => ?_)
              refine value_ (w1 := ?_) (v := ?_) (by rfl) rfl ?_ ?_
              rotate_left 2
              · go_simp
                constructor
                · rfl
                · rfl
              refine hK.out _ _ ⟨(blk_cell (by (with_reducible repeat (first | refine blk_drewN ?_ _ | refine blk_drew ?_ | refine blk_alloc ?_ _)); exact B91.out) 2).trans rfl, ((show Below w0.heap.size w0 _ from (by repeat (first | (with_reducible first | exact HB1.out | apply below_alloc | apply pw_below_drewN | apply below_drew1) | exact HB1.out))).cell (World.block_lt_of_cell? w0 _ hq2.out)).trans hq2.out⟩ (fun hHeld => ?_)
              clear hK K
              refine norm_ (a' := ?_) ?_ ?_
              rotate_left
              · show Act.put _ (some 80) _ = _
                simp only [Act.put, List.setIfInBounds_toArray, List.set_cons_zero, List.set_cons_succ, i64_w, i32_w]
                rfl
              refine last_ (i := 13) (N := some 81) #[true, true, true, true, true, true, true, true, true, true, true, true, true, true, false, false] rfl rfl (by kernel_rfl) (by decide) (fun K hK => ?_)
              refine Kd.S_append_step kG (w0 := w6) w.heap.size (by rfl) (.tmp 69) (.tmp 80) 27 29 (.agg #[.int .i64 0, .int .i64 0, .slice none 0 0]) 40 rfl Try.underlying27 info29 rfl (by decide) (by omega) (.slice Ao out.length co) out t [.int .i64 t.f0, .int .i64 t.f1, .slice Av t.f2.length cv] (fun k_ => g9 < k_) (fun k_ => NO ≤ k_) rfl rfl ?aP ?aK ?aF ?aO ?aB ?aS ?aL ?_
              (case aP => exact kG_mkM (x := t) HSv.out)
              (case aK => exact fun k_ hk_ => ⟨Nat.lt_of_lt_of_le HLN.out hk_, fun e_ => by have h_ := ((Kd.S_R HO1.out).1 k_ e_.symm).2; omega⟩)
              (case aF => exact fun k_ hk_ => Nat.lt_of_lt_of_le (blk_lt B91.out) hk_)
              (case aO => exact Kd.S_mono HO1.out (fun k_ hk_ => ⟨hk_.1, Nat.not_le.2 hk_.2⟩))
              (case aB => exact Below.refl _ _)
              (case aS => exact HKw.out.1)
              (case aL => have := LM.out; omega)
              intro v7b w7 ho hb hg hat
              have hown : ∀ k_, (.slice Ao out.length co : Value).ownBlock = some k_ → g9 < k_ := fun k_ e_ => ((Kd.S_R HO1.out).1 k_ e_).1
              have n1_ := Aside0.mk (blk_grown (g := g8) (o := .cells #[.int .i64 0, .int .i64 0, .slice none 0 0] 29 (0, 0)) B81.out hg (fun e_ => by have := hown _ e_.symm; have := HLT.out; omega))
              have n2_ := Aside0.mk (blk_grown (g := g9) (o := .cells #[.int .i64 x.f0, .int .i64 x.f1, .slice Ao out.length co] 29 (0, 0)) B91.out hg (fun e_ => by have := hown _ e_.symm; omega))
              have n3_ := Aside0.mk (blk_grown (g := gL) (o := .cells #[.int .i64 tl] 2 (0, 0)) BL1.out hg (fun e_ => by have := hown _ e_.symm; have := HLT.out; have := HLG.out; omega))
              have n4_ := Aside0.mk (pw_below_grown HB1.out _ (below_size HB1.out) hg (fun k_ e_ => by have := hown _ e_; omega))
              have n5_ := Aside0.mk (Kept.of_grown hg HKw.out (fun k_ e_ => .inr (by have := hown _ e_; have := GW_g9.out; omega)))
              obtain ⟨Ap, cp, ep⟩ := Kd.S_slice ho
              subst ep
              rw [show (out ++ [t]).length = out.length + 1 by simp] at ho
              clear hg hat hown HO1 B81 B91 BL1 HB1 HKw HSv HNS
              have HO8 := Aside0.mk ho
              have B88 := n1_
              have B98 := n2_
              have BL8 := n3_
              have HB8 := n4_
              have HK8 := n5_
              clear n1_ n2_ n3_ n4_ n5_ ho hb
              have hz_90 : w7.cell? ⟨g9, 0, none⟩ = some (.int .i64 x.f0) := (blk_cell B98.out 0).trans rfl
              have hz_9f0 := blk_frozen B98.out 0
              have hz_91 : w7.cell? ⟨g9, 1, none⟩ = some (.int .i64 x.f1) := (blk_cell B98.out 1).trans rfl
              have hz_9f1 := blk_frozen B98.out 1
              have hz_92 : w7.cell? ⟨g9, 2, none⟩ = some (.slice Ao out.length co) := (blk_cell B98.out 2).trans rfl
              have hz_9f2 := blk_frozen B98.out 2
              refine hK.out _ _ ?_
              clear hK K
              refine norm_ (a' := ?_) ?_ ?_
              rotate_left
              · show Act.put _ (some 81) _ = _
                simp only [Act.put, List.setIfInBounds_toArray, List.set_cons_zero, List.set_cons_succ, i64_w, i32_w]
                rfl
              refine pure_ (i := 14) (N := some 82) (v := ?_) (a' := ?_) #[true, true, true, true, true, true, true, true, true, true, true, true, true, true, true, false] rfl rfl (by kernel_rfl) (fun _ _ _ h => h) (Or.inl ⟨by rfl, ?_⟩) ?_ ?_
              rotate_left
              · intro w'
                first | (go_simp; with_reducible rfl) | (simp [go_sem, Instr.field, asAgg] <;> with_reducible rfl)
              rotate_left
              · simp only [Act.put, List.setIfInBounds_toArray, List.set_cons_zero, List.set_cons_succ, i64_w, i32_w]
                rfl
              refine last_ (i := 15) (N := none) #[true, true, true, true, true, true, true, true, true, true, true, true, true, true, true, true] rfl rfl (by kernel_rfl) (by decide) (fun K hK => ?_)
              refine skip_ (w1 := ?_) (by rfl) rfl ?_ ?_
              rotate_left
              · go_simp
                rfl
              refine hK.out _ _ ?_
              clear hK K
              refine done_ (by kernel_rfl) ?_
              (try clear hHeld)
              (try go_wp2)
              go_roundg k1
              case measure => have := HK1.out; omega
              case rel => exact ⟨_, out ++ [t], _, _, rfl, HF, ⟨by have := HK1.out; omega⟩, ⟨Kd.S_far (p := ⟨g9, 2, none⟩) HO8.out (fun k_ hk_ => by have h_ : g9 < k_ := hk_; show k_ ≠ g9; omega) _⟩, ⟨blk_put B98.out 2 _ rfl⟩, ⟨blk_far B88.out hn89 _⟩, ⟨blk_far BL8.out hnL9 _⟩, ⟨below_set HB8.out hg9⟩, ⟨Kept.setCell HK8.out (.inr GW_g9.out) _⟩⟩
            · rw [if_neg c5] at H'
              obtain ⟨rfl, rfl⟩ := Prod.mk.inj (Option.some.inj H')
              clear H'
              have c5b : decide (lq ≥ 0) = false := decide_eq_false c5
              have c5c : decide (0 ≤ lq) = false := decide_eq_false c5
              clear c5 c6
              go_wp2
              have hg0 : w0.heap.size ≤ g8 := by have := HS0.out; have := GW_g8.out; omega
              have hnL8 : gL ≠ g8 := by have := HLG.out; omega
              refine bodyPost_ret (results_cell_row rfl _ _ g8 29 #[.int .i64 x.f0, .int .i64 x.f1, .slice Ao out.length co] (0, 0) _ rfl (by (with_reducible repeat (first | refine blk_drewN ?_ _ | refine blk_drew ?_ | refine blk_alloc ?_ _)); refine blk_put (cs := #[.int .i64 x.f0, .int .i64 x.f1, .slice none 0 0]) ?_ 2 _ rfl; (with_reducible repeat (first | refine blk_drewN ?_ _ | refine blk_drew ?_ | refine blk_alloc ?_ _)); refine blk_put (cs := #[.int .i64 x.f0, .int .i64 0, .slice none 0 0]) ?_ 1 _ rfl; (with_reducible repeat (first | refine blk_drewN ?_ _ | refine blk_drew ?_ | refine blk_alloc ?_ _)); refine blk_put (cs := #[.int .i64 0, .int .i64 0, .slice none 0 0]) ?_ 0 _ rfl; (with_reducible repeat (first | refine blk_drewN ?_ _ | refine blk_drew ?_ | refine blk_alloc ?_ _)); exact B80.out) Try.underlying29 rfl (by kernel_rfl)) rfl ?_
              exact ⟨_, rfl, Kd.S_mono (Kd.S_far (p := ⟨g8, 2, none⟩) (Kd.S_far (p := ⟨g8, 1, none⟩) (Kd.S_far (p := ⟨g8, 0, none⟩) HO.out (fun k_ hk_ => by have h_ : g9 < k_ := hk_; have := HLT.out; show k_ ≠ g8; omega) _) (fun k_ hk_ => by have h_ : g9 < k_ := hk_; have := HLT.out; show k_ ≠ g8; omega) _) (fun k_ hk_ => by have h_ : g9 < k_ := hk_; have := HLT.out; show k_ ≠ g8; omega) _) (fun _ _ => trivial), (by repeat (first | (with_reducible first | exact HB0.out | apply below_alloc | apply pw_below_drewN | apply below_drew1 | refine below_set ?_ hg0) | exact HB0.out)), Kept.setCell (Kept.setCell (Kept.setCell (by repeat (first | exact HK0.out | apply Kept.alloc | apply Kept.drewN | apply Kept.drew)) (.inr GW_g8.out) _) (.inr GW_g8.out) _) (.inr GW_g8.out) _, blk_far (blk_far (blk_far (by (with_reducible repeat (first | refine blk_drewN ?_ _ | refine blk_drew ?_ | refine blk_alloc ?_ _)); exact BL0.out) hnL8 _) hnL8 _) hnL8 _⟩
          · rw [if_neg c6] at H'
            obtain ⟨rfl, rfl⟩ := Prod.mk.inj (Option.some.inj H')
            clear H'
            have c6b0 : decide (i < (x.f2.length : Int)) = false := decide_eq_false c6
            clear c6
            go_wp2
            have hg0 : w0.heap.size ≤ g8 := by have := HS0.out; have := GW_g8.out; omega
            have hnL8 : gL ≠ g8 := by have := HLG.out; omega
            refine bodyPost_ret (results_cell_row rfl _ _ g8 29 #[.int .i64 x.f0, .int .i64 x.f1, .slice Ao out.length co] (0, 0) _ rfl (by (with_reducible repeat (first | refine blk_drewN ?_ _ | refine blk_drew ?_ | refine blk_alloc ?_ _)); refine blk_put (cs := #[.int .i64 x.f0, .int .i64 x.f1, .slice none 0 0]) ?_ 2 _ rfl; (with_reducible repeat (first | refine blk_drewN ?_ _ | refine blk_drew ?_ | refine blk_alloc ?_ _)); refine blk_put (cs := #[.int .i64 x.f0, .int .i64 0, .slice none 0 0]) ?_ 1 _ rfl; (with_reducible repeat (first | refine blk_drewN ?_ _ | refine blk_drew ?_ | refine blk_alloc ?_ _)); refine blk_put (cs := #[.int .i64 0, .int .i64 0, .slice none 0 0]) ?_ 0 _ rfl; (with_reducible repeat (first | refine blk_drewN ?_ _ | refine blk_drew ?_ | refine blk_alloc ?_ _)); exact B80.out) Try.underlying29 rfl (by kernel_rfl)) rfl ?_
            exact ⟨_, rfl, Kd.S_mono (Kd.S_far (p := ⟨g8, 2, none⟩) (Kd.S_far (p := ⟨g8, 1, none⟩) (Kd.S_far (p := ⟨g8, 0, none⟩) HO.out (fun k_ hk_ => by have h_ : g9 < k_ := hk_; have := HLT.out; show k_ ≠ g8; omega) _) (fun k_ hk_ => by have h_ : g9 < k_ := hk_; have := HLT.out; show k_ ≠ g8; omega) _) (fun k_ hk_ => by have h_ : g9 < k_ := hk_; have := HLT.out; show k_ ≠ g8; omega) _) (fun _ _ => trivial), (by repeat (first | (with_reducible first | exact HB0.out | apply below_alloc | apply pw_below_drewN | apply below_drew1 | refine below_set ?_ hg0) | exact HB0.out)), Kept.setCell (Kept.setCell (Kept.setCell (by repeat (first | exact HK0.out | apply Kept.alloc | apply Kept.drewN | apply Kept.drew)) (.inr GW_g8.out) _) (.inr GW_g8.out) _) (.inr GW_g8.out) _, blk_far (blk_far (blk_far (by (with_reducible repeat (first | refine blk_drewN ?_ _ | refine blk_drew ?_ | refine blk_alloc ?_ _)); exact BL0.out) hnL8 _) hnL8 _) hnL8 _⟩
  · rw [if_neg c0] at h_
    have c0b : ((x.f2.length : Int) == 0) = false := beq_eq_false_iff_ne.mpr c0
    replace c0 := Aside0.mk c0
    have A1 := Aside0.mk h_
    clear h_
    go_enter Try.func74, Try.ntmps74
    go_wp2_with (first | ((with_reducible refine gate_dst (N := 8) rfl ?_); refine box_event ?hg (N := 8) ?hd (cs := #[.int .i64 0, .int .i64 0, .slice none 0 0]) (t := 29) ?hr ?_; (case hd => rfl); (case hg => rfl); (case hr => first | (go_simp; done) | (go_simp; rfl)); intro g8 hg w1 hbox hb; have n0_ := Aside0.mk (below_step HB.out hb); have n1_ := Aside0.mk (Kept.of_below hb (fun k_ => k_ = gL)); have n2_ := Aside0.mk (blk_below (g := gL) (o := .cells #[.int .i64 l] 2 (0, 0)) BL.out hb); have GW_g8 := Aside0.mk (show w.heap.size ≤ g8 by rw [hg]; exact Nat.le_refl _); have HLG : Aside0 (gL < g8) := ⟨by rw [hg]; exact blk_lt BL.out⟩; have hx0 : w1.cell? ad = some (.int .i64 x.f0) := (n0_.out.cell (World.block_lt_of_cell? w0 _ hq0.out)).trans hq0.out; have hx2 : w1.cell? ⟨ad.block, ad.off + 2, none⟩ = some (.slice A x.f2.length c) := (n0_.out.cell (World.block_lt_of_cell? w0 _ hq2.out)).trans hq2.out; clear HB BL; have HB := n0_; have HK := n1_; have BL := n2_; clear n0_ n1_ n2_; have B8 := Aside0.mk hbox; clear hbox hb hg; have hz_80 : w1.cell? ⟨g8, 0, none⟩ = some (.int .i64 0) := (blk_cell B8.out 0).trans rfl; have hz_8f0 := blk_frozen B8.out 0; have hz_81 : w1.cell? ⟨g8, 1, none⟩ = some (.int .i64 0) := (blk_cell B8.out 1).trans rfl; have hz_8f1 := blk_frozen B8.out 1; have hz_82 : w1.cell? ⟨g8, 2, none⟩ = some (.slice none 0 0) := (blk_cell B8.out 2).trans rfl; have hz_8f2 := blk_frozen B8.out 2; have hz_L0 : w1.cell? ⟨gL, 0, none⟩ = some (.int .i64 l) := (blk_cell BL.out 0).trans rfl; have hz_Lf0 := blk_frozen BL.out 0))
    have hn8L : g8 ≠ gL := by have := HLG.out; omega
    have HB0 : Aside0 (Below w0.heap.size w0 (w1.setCell ⟨gL, 0, none⟩ (.int .i64 (wrap64 (l - 1)))).drew) := ⟨below_drew1 (below_set HB.out HGL.out)⟩
    have HK0 : Aside0 (Kept w (w1.setCell ⟨gL, 0, none⟩ (.int .i64 (wrap64 (l - 1)))).drew (fun k_ => k_ = gL)) := ⟨Kept.setCell HK.out (.inl rfl) _⟩
    have B80 : Aside0 ((w1.setCell ⟨gL, 0, none⟩ (.int .i64 (wrap64 (l - 1)))).drew.heap[g8]? = some (.cells #[.int .i64 0, .int .i64 0, .slice none 0 0] 29 (0, 0))) := ⟨blk_far B8.out hn8L _⟩
    have BL0 : Aside0 ((w1.setCell ⟨gL, 0, none⟩ (.int .i64 (wrap64 (l - 1)))).drew.heap[gL]? = some (.cells #[.int .i64 (wrap64 (l - 1))] 2 (0, 0))) := ⟨blk_put BL.out 0 _ rfl⟩
    clear HB HK B8 BL hz_80 hz_8f0 hz_81 hz_8f1 hz_82 hz_8f2 hz_L0 hz_Lf0
    (try clear hx0 hx2)
    refine start_ (n := 11) (S := fun w' => w'.cell? ad = some (.int .i64 x.f0) ∧ w'.cell? ⟨ad.block, ad.off + 1, none⟩ = some (.int .i64 x.f1)) (ds := [10]) #[false, false, false, false, false, false, false, false, false, false, false] (by kernel_rfl) rfl rfl ⟨((show Below w0.heap.size w0 _ from (by repeat (first | (with_reducible first | exact HB0.out | apply below_alloc | apply pw_below_drewN | apply below_drew1) | exact HB0.out))).cell (World.block_lt_of_cell? w0 _ hq0.out)).trans hq0.out, ((show Below w0.heap.size w0 _ from (by repeat (first | (with_reducible first | exact HB0.out | apply below_alloc | apply pw_below_drewN | apply below_drew1) | exact HB0.out))).cell (World.block_lt_of_cell? w0 _ hq1.out)).trans hq1.out⟩ (fun hHeld => ?_)
    generalize (w1.setCell ⟨gL, 0, none⟩ (.int .i64 (wrap64 (l - 1)))).drew = w8x at HB0 HK0 B80 BL0 hHeld ⊢
    refine pure_ (i := 0) (N := some 44) (v := ?_) (a' := ?_) #[true, false, false, false, false, false, false, false, false, false, false] rfl rfl (by kernel_rfl) (fun _ _ _ h => h) (Or.inl ⟨by rfl, ?_⟩) ?_ ?_
    rotate_left
    · intro w'
      first | (go_simp; with_reducible rfl) | (simp [go_sem, Instr.field, asAgg] <;> with_reducible rfl)
    rotate_left
    · simp only [Act.put, List.setIfInBounds_toArray, List.set_cons_zero, List.set_cons_succ, i64_w, i32_w]
      rfl
    refine pure_ (i := 1) (N := some 45) (v := ?_) (a' := ?_) #[true, true, false, false, false, false, false, false, false, false, false] rfl rfl (by kernel_rfl) (fun _ _ _ h => h) (Or.inl ⟨by rfl, ?_⟩) ?_ ?_
    rotate_left
    · intro w'
      first | (go_simp; with_reducible rfl) | (simp [go_sem, Instr.field, asAgg] <;> with_reducible rfl)
    rotate_left
    · simp only [Act.put, List.setIfInBounds_toArray, List.set_cons_zero, List.set_cons_succ, i64_w, i32_w]
      rfl
    refine pure_ (i := 2) (N := some 46) (v := ?_) (a' := ?_) #[true, true, true, false, false, false, false, false, false, false, false] rfl rfl (by kernel_rfl) (fun _ _ _ h => h) (Or.inl ⟨by rfl, ?_⟩) ?_ ?_
    rotate_left
    · intro w'
      first | (go_simp; with_reducible rfl) | (simp [go_sem, Instr.field, asAgg] <;> with_reducible rfl)
    rotate_left
    · simp only [Act.put, List.setIfInBounds_toArray, List.set_cons_zero, List.set_cons_succ, i64_w, i32_w]
      rfl
    refine pure_ (i := 4) (N := some 48) (v := ?_) (a' := ?_) #[true, true, true, false, true, false, false, false, false, false, false] rfl rfl (by kernel_rfl) (fun _ _ _ h => h) (Or.inl ⟨by rfl, ?_⟩) ?_ ?_
    rotate_left
    · intro w'
      first | (go_simp; with_reducible rfl) | (simp [go_sem, Instr.field, asAgg] <;> with_reducible rfl)
    rotate_left
    · simp only [Act.put, List.setIfInBounds_toArray, List.set_cons_zero, List.set_cons_succ, i64_w, i32_w]
      rfl
    refine pure_ (i := 5) (N := some 49) (v := ?_) (a' := ?_) #[true, true, true, false, true, true, false, false, false, false, false] rfl rfl (by kernel_rfl) (fun _ _ _ h => h) (Or.inl ⟨by rfl, ?_⟩) ?_ ?_
    rotate_left
    · intro w'
      first | (go_simp; with_reducible rfl) | (simp [go_sem, Instr.field, asAgg] <;> with_reducible rfl)
    rotate_left
    · simp only [Act.put, List.setIfInBounds_toArray, List.set_cons_zero, List.set_cons_succ, i64_w, i32_w]
      rfl
    refine pure_ (i := 6) (N := some 50) (v := ?_) (a' := ?_) #[true, true, true, false, true, true, true, false, false, false, false] rfl rfl (by kernel_rfl) (fun _ _ _ h => h) (Or.inl ⟨by rfl, ?_⟩) ?_ ?_
    rotate_left
    · intro w'
      first | (go_simp; with_reducible rfl) | (simp [go_sem, Instr.field, asAgg] <;> with_reducible rfl)
    rotate_left
    · simp only [Act.put, List.setIfInBounds_toArray, List.set_cons_zero, List.set_cons_succ, i64_w, i32_w]
      rfl
    refine take_ (i := 3) (N := some 47) (v := ?_) (a' := ?_) #[true, true, true, true, true, true, true, false, false, false, false] rfl rfl (by kernel_rfl) (fun _ _ _ h => h) (Or.inl ⟨by rfl, ?_⟩) hHeld ?_ ?_
    rotate_left
    · rintro w' ⟨s0, s1⟩
      go_simp
      with_reducible rfl
    rotate_left
    · simp only [Act.put, List.setIfInBounds_toArray, List.set_cons_zero, List.set_cons_succ, i64_w, i32_w]
      rfl
    refine take_ (i := 7) (N := some 51) (v := ?_) (a' := ?_) #[true, true, true, true, true, true, true, true, false, false, false] rfl rfl (by kernel_rfl) (fun _ _ _ h => h) (Or.inl ⟨by rfl, ?_⟩) hHeld ?_ ?_
    rotate_left
    · rintro w' ⟨s0, s1⟩
      go_simp
      with_reducible rfl
    rotate_left
    · simp only [Act.put, List.setIfInBounds_toArray, List.set_cons_zero, List.set_cons_succ, i64_w, i32_w]
      rfl
    refine pure_ (i := 8) (N := some 52) (v := ?_) (a' := ?_) #[true, true, true, true, true, true, true, true, true, false, false] rfl rfl (by kernel_rfl) (fun _ _ _ h => h) (Or.inl ⟨by rfl, ?_⟩) ?_ ?_
    rotate_left
    · intro w'
      first | (go_simp; with_reducible rfl) | (simp [go_sem, Instr.field, asAgg] <;> with_reducible rfl)
    rotate_left
    · simp only [Act.put, List.setIfInBounds_toArray, List.set_cons_zero, List.set_cons_succ, i64_w, i32_w]
      rfl
    refine one_ (i := 9) (N := some 9) #[true, true, true, true, true, true, true, true, true, true, false] rfl rfl (by kernel_rfl) (by decide) (fun K hK => ?_)
    refine box_step ?hw (N := 9) ?hd (cs := #[.int .i64 0, .int .i64 0, .slice none 0 0]) (t := 29) ?hr ?_
    (case hw => rfl)
    (case hd => rfl)
    (case hr => first | (go_simp; done) | (go_simp; rfl))
    intro g9 hg w3 hbox hb
    have GW_g9 := Aside0.mk ((by rw [hg]; exact (show Kept w _ (fun k_ => k_ = gL) from (by repeat (first | exact HK0.out | apply Kept.alloc | apply Kept.drewN | apply Kept.drew))).1) : w.heap.size ≤ g9)
    have HLT : Aside0 (g8 < g9) := ⟨by rw [hg]; exact blk_lt (o := .cells #[.int .i64 0, .int .i64 0, .slice none 0 0] 29 (0, 0)) (by (with_reducible repeat (first | refine blk_drewN ?_ _ | refine blk_drew ?_ | refine blk_alloc ?_ _)); exact B80.out)⟩
    have B90 := Aside0.mk hbox
    clear hbox hg
    have n0_ := Aside0.mk (below_step (by repeat (first | (with_reducible first | exact HB0.out | apply below_alloc | apply pw_below_drewN | apply below_drew1) | exact HB0.out)) hb)
    have n1_ := Aside0.mk (Kept.below (by repeat (first | exact HK0.out | apply Kept.alloc | apply Kept.drewN | apply Kept.drew)) hb)
    have n2_ := Aside0.mk (blk_below (g := g8) (o := .cells #[.int .i64 0, .int .i64 0, .slice none 0 0] 29 (0, 0)) (by (with_reducible repeat (first | refine blk_drewN ?_ _ | refine blk_drew ?_ | refine blk_alloc ?_ _)); exact B80.out) hb)
    have n3_ := Aside0.mk (blk_below (g := gL) (o := .cells #[.int .i64 (wrap64 (l - 1))] 2 (0, 0)) (by (with_reducible repeat (first | refine blk_drewN ?_ _ | refine blk_drew ?_ | refine blk_alloc ?_ _)); exact BL0.out) hb)
    clear HB0 HK0 B80 BL0
    have HB0 := n0_
    have HK0 := n1_
    have B80 := n2_
    have BL0 := n3_
    clear n0_ n1_ n2_ n3_ hb
    have hz_90 : w3.cell? ⟨g9, 0, none⟩ = some (.int .i64 0) := (blk_cell B90.out 0).trans rfl
    have hz_9f0 := blk_frozen B90.out 0
    have hz_91 : w3.cell? ⟨g9, 1, none⟩ = some (.int .i64 0) := (blk_cell B90.out 1).trans rfl
    have hz_9f1 := blk_frozen B90.out 1
    have hz_92 : w3.cell? ⟨g9, 2, none⟩ = some (.slice none 0 0) := (blk_cell B90.out 2).trans rfl
    have hz_9f2 := blk_frozen B90.out 2
    refine hK.out _ _ ⟨((show Below w0.heap.size w0 _ from (by repeat (first | (with_reducible first | exact HB0.out | apply below_alloc | apply pw_below_drewN | apply below_drew1) | exact HB0.out))).cell (World.block_lt_of_cell? w0 _ hq0.out)).trans hq0.out, ((show Below w0.heap.size w0 _ from (by repeat (first | (with_reducible first | exact HB0.out | apply below_alloc | apply pw_below_drewN | apply below_drew1) | exact HB0.out))).cell (World.block_lt_of_cell? w0 _ hq1.out)).trans hq1.out⟩ (fun hHeld => ?_)
    clear hK K
    refine norm_ (a' := ?_) ?_ ?_
    rotate_left
    · show Act.put _ (some 9) _ = _
      simp only [Act.put, List.setIfInBounds_toArray, List.set_cons_zero, List.set_cons_succ, i64_w, i32_w]
      rfl
    refine last_ (i := 10) (N := none) #[true, true, true, true, true, true, true, true, true, true, true] rfl rfl (by kernel_rfl) (by decide) (fun K hK => ?_)
    refine skip_ (w1 := ?_) (by rfl) rfl ?_ ?_
    rotate_left
    · go_simp
      rfl
    refine hK.out _ _ ?_
    clear hK K
    refine done_ (by kernel_rfl) ?_
    (try clear hHeld)
    clear hz_90 hz_9f0 hz_91 hz_9f1 hz_92 hz_9f2
    have hn89 : g8 ≠ g9 := by have := HLT.out; omega
    have hnL9 : gL ≠ g9 := by have := HLT.out; have := HLG.out; omega
    have hg0 : w0.heap.size ≤ g8 := by have := HS0.out; have := GW_g8.out; omega
    have hg9 : w0.heap.size ≤ g9 := by have := HS0.out; have := GW_g9.out; omega
    (try go_wp2)
    go_loopg [10] k (fun kq v10 w' => ∃ (i : Int) (out : List S29) (u : Value) (lq : Int), v10 = .int .i64 i ∧ Aside0 (spec_l02Put.l0 kq x h b out lq i = some (y, l2)) ∧ Aside0 (kq ≤ k) ∧ Aside0 (Kd.S kG 29 w' w.heap.size (fun k_ => g9 < k_) u out) ∧ Aside0 (w'.heap[g9]? = some (.cells #[.int .i64 x.f0, .int .i64 x.f1, u] 29 (0, 0))) ∧ Aside0 (w'.heap[g8]? = some (.cells #[.int .i64 0, .int .i64 0, .slice none 0 0] 29 (0, 0))) ∧ Aside0 (w'.heap[gL]? = some (.cells #[.int .i64 lq] 2 (0, 0))) ∧ Aside0 (Below w0.heap.size w0 w') ∧ Aside0 (Kept w w' (fun k_ => k_ = gL)))
    case atStart => exact ⟨0, [], _, _, rfl, A1, ⟨Nat.le_refl _⟩, ⟨Kd.S_nil _ _ _ _ _⟩, ⟨(by (with_reducible repeat (first | refine blk_drewN ?_ _ | refine blk_drew ?_ | refine blk_alloc ?_ _)); refine blk_put (cs := #[.int .i64 x.f0, .int .i64 x.f1, .slice none 0 0]) ?_ 2 _ rfl; (with_reducible repeat (first | refine blk_drewN ?_ _ | refine blk_drew ?_ | refine blk_alloc ?_ _)); refine blk_put (cs := #[.int .i64 x.f0, .int .i64 0, .slice none 0 0]) ?_ 1 _ rfl; (with_reducible repeat (first | refine blk_drewN ?_ _ | refine blk_drew ?_ | refine blk_alloc ?_ _)); refine blk_put (cs := #[.int .i64 0, .int .i64 0, .slice none 0 0]) ?_ 0 _ rfl; (with_reducible repeat (first | refine blk_drewN ?_ _ | refine blk_drew ?_ | refine blk_alloc ?_ _)); exact B90.out)⟩, ⟨(by first | exact B80.out | (refine blk_far ?_ hn89 _; refine blk_far ?_ hn89 _; refine blk_far ?_ hn89 _; exact B80.out))⟩, ⟨(by first | exact BL0.out | (refine blk_far ?_ hnL9 _; refine blk_far ?_ hnL9 _; refine blk_far ?_ hnL9 _; exact BL0.out))⟩, ⟨(by repeat (first | (with_reducible first | exact HB0.out | apply below_alloc | apply pw_below_drewN | apply below_drew1 | refine below_set ?_ hg9) | exact HB0.out))⟩, ⟨(Kept.setCell (Kept.setCell (Kept.setCell HK0.out (.inr GW_g9.out) _) (.inr GW_g9.out) _) (.inr GW_g9.out) _)⟩⟩
    case round =>
      clear A1 B90 B80 BL0 HB0 HK0
      obtain ⟨i, out, u, lq, rfl, HA, HK1, HO, B90, B80, BL0, HB0, HK0⟩ := hrel
      obtain ⟨Ao, co, eo⟩ := Kd.S_slice HO.out
      subst eo
      have hx2 : wr.cell? ⟨ad.block, ad.off + 2, none⟩ = some (.slice A x.f2.length c) := (HB0.out.cell (World.block_lt_of_cell? w0 _ hq2.out)).trans hq2.out
      have hz_90 : wr.cell? ⟨g9, 0, none⟩ = some (.int .i64 x.f0) := (blk_cell B90.out 0).trans rfl
      have hz_9f0 := blk_frozen B90.out 0
      have hz_91 : wr.cell? ⟨g9, 1, none⟩ = some (.int .i64 x.f1) := (blk_cell B90.out 1).trans rfl
      have hz_9f1 := blk_frozen B90.out 1
      have hz_92 : wr.cell? ⟨g9, 2, none⟩ = some (.slice Ao out.length co) := (blk_cell B90.out 2).trans rfl
      have hz_9f2 := blk_frozen B90.out 2
      have hz_80 : wr.cell? ⟨g8, 0, none⟩ = some (.int .i64 0) := (blk_cell B80.out 0).trans rfl
      have hz_8f0 := blk_frozen B80.out 0
      have hz_81 : wr.cell? ⟨g8, 1, none⟩ = some (.int .i64 0) := (blk_cell B80.out 1).trans rfl
      have hz_8f1 := blk_frozen B80.out 1
      have hz_82 : wr.cell? ⟨g8, 2, none⟩ = some (.slice none 0 0) := (blk_cell B80.out 2).trans rfl
      have hz_8f2 := blk_frozen B80.out 2
      have hz_L0 : wr.cell? ⟨gL, 0, none⟩ = some (.int .i64 lq) := (blk_cell BL0.out 0).trans rfl
      have hz_Lf0 := blk_frozen BL0.out 0
      cases gk with
      | zero => exact absurd HA.out (by simp [spec_l02Put.l0])
      | succ k1 =>
        have H' := HA.out
        clear HA
        simp only [spec_l02Put.l0] at H'
        by_cases c6 : i < (x.f2.length : Int)
        · rw [if_pos c6] at H'
          have c6b0 : decide (i < (x.f2.length : Int)) = true := decide_eq_true c6
          by_cases c5 : lq ≥ 0
          · rw [if_pos c5] at H'
            have c5b : decide (lq ≥ 0) = true := decide_eq_true c5
            have c5c : decide (0 ≤ lq) = true := decide_eq_true c5
            replace c5 := Aside0.mk c5
            by_cases c7 : 0 ≤ i
            case neg => rw [if_neg c7] at H'; exact absurd H' (by simp)
            rw [if_pos c7] at H'
            replace H' := Option.bind_eq_some_iff.mp H'
            obtain ⟨⟨t, tl⟩, At, H'⟩ := H'
            have A7 := Aside0.mk At
            clear At
            by_cases c8 : out.length < 1048576
            case neg => rw [if_neg c8] at H'; exact absurd H' (by simp)
            rw [if_pos c8] at H'
            have LM := Aside0.mk c8
            have HF := Aside0.mk H'
            clear H' c8
            have c7b0 : decide (0 ≤ i) = true := decide_eq_true c7
            obtain ⟨ad2, A2, c2, e2, _⟩ := at_T29 HC.out i c7 c6
            cases e2
            have HE := Aside0.mk (gate_el HC.out i c7 c6)
            replace c7 := eq_true c7
            replace c6 := eq_true c6
            obtain ⟨NO, hNO⟩ : ∃ n : Nat, n = wr.heap.size := ⟨_, rfl⟩
            have HNO := Aside0.mk hNO
            have HLN : Aside0 (g9 < NO) := ⟨by rw [hNO]; exact blk_lt B90.out⟩
            clear hNO
            go_wp2
            have HB1 : Aside0 (Below w0.heap.size w0 wr.drew) := ⟨(by repeat (first | (with_reducible first | exact HB0.out | apply below_alloc | apply pw_below_drewN | apply below_drew1) | exact HB0.out))⟩
            have HKw : Aside0 (Kept w wr.drew (fun k_ => k_ = gL)) := ⟨(by repeat (first | exact HK0.out | apply Kept.alloc | apply Kept.drewN | apply Kept.drew))⟩
            have B91 : Aside0 (wr.drew.heap[g9]? = some (.cells #[.int .i64 x.f0, .int .i64 x.f1, .slice Ao out.length co] 29 (0, 0))) := ⟨(by (with_reducible repeat (first | refine blk_drewN ?_ _ | refine blk_drew ?_ | refine blk_alloc ?_ _)); exact B90.out)⟩
            have B81 : Aside0 (wr.drew.heap[g8]? = some (.cells #[.int .i64 0, .int .i64 0, .slice none 0 0] 29 (0, 0))) := ⟨(by (with_reducible repeat (first | refine blk_drewN ?_ _ | refine blk_drew ?_ | refine blk_alloc ?_ _)); exact B80.out)⟩
            have BL1 : Aside0 (wr.drew.heap[gL]? = some (.cells #[.int .i64 lq] 2 (0, 0))) := ⟨(by (with_reducible repeat (first | refine blk_drewN ?_ _ | refine blk_drew ?_ | refine blk_alloc ?_ _)); exact BL0.out)⟩
            have HO1 : Aside0 (Kd.S kG 29 wr.drew w.heap.size (fun k_ => g9 < k_ ∧ k_ < NO) (.slice Ao out.length co) out) := ⟨(by (with_reducible repeat (first | apply Kd.S_alloc | apply Kd.S_drewN | apply Kd.S_drew)); exact (Kd.S_mono (Kd.S_bound HO.out) (fun k_ hk_ => ⟨hk_.1, by rw [HNO.out]; exact hk_.2.2.1⟩)))⟩
            have HNS : Aside0 (NO ≤ wr.drew.heap.size) := ⟨by rw [HNO.out]; exact Nat.le_refl _⟩
            clear HB0 HK0 B90 B80 BL0 HO hx2 hz_90 hz_9f0 hz_91 hz_9f1 hz_92 hz_9f2 hz_80 hz_8f0 hz_81 hz_8f1 hz_82 hz_8f2 hz_L0 hz_Lf0
            refine start_ (n := 16) (S := fun w' => w'.cell? ⟨g9, 2, none⟩ = some (.slice Ao out.length co) ∧ w'.cell? ⟨ad.block, ad.off + 2, none⟩ = some (.slice (some ad2) x.f2.length c)) (ds := [13, 15]) #[false, false, false, false, false, false, false, false, false, false, false, false, false, false, false, false] (by kernel_rfl) rfl rfl ⟨(blk_cell (by (with_reducible repeat (first | refine blk_drewN ?_ _ | refine blk_drew ?_ | refine blk_alloc ?_ _)); exact B91.out) 2).trans rfl, ((show Below w0.heap.size w0 _ from (by repeat (first | (with_reducible first | exact HB1.out | apply below_alloc | apply pw_below_drewN | apply below_drew1) | exact HB1.out))).cell (World.block_lt_of_cell? w0 _ hq2.out)).trans hq2.out⟩ (fun hHeld => ?_)
            generalize wr.drew = w8x at HB1 HKw B91 B81 BL1 HO1 HNS hHeld ⊢
            refine pure_ (i := 0) (N := some 68) (v := ?_) (a' := ?_) #[true, false, false, false, false, false, false, false, false, false, false, false, false, false, false, false] rfl rfl (by kernel_rfl) (fun _ _ _ h => h) (Or.inl ⟨by rfl, ?_⟩) ?_ ?_
            rotate_left
            · intro w'
              first | (go_simp; with_reducible rfl) | (simp [go_sem, Instr.field, asAgg] <;> with_reducible rfl)
            rotate_left
            · simp only [Act.put, List.setIfInBounds_toArray, List.set_cons_zero, List.set_cons_succ, i64_w, i32_w]
              rfl
            refine pure_ (i := 2) (N := some 70) (v := ?_) (a' := ?_) #[true, false, true, false, false, false, false, false, false, false, false, false, false, false, false, false] rfl rfl (by kernel_rfl) (fun _ _ _ h => h) (Or.inl ⟨by rfl, ?_⟩) ?_ ?_
            rotate_left
            · intro w'
              first | (go_simp; with_reducible rfl) | (simp [go_sem, Instr.field, asAgg] <;> with_reducible rfl)
            rotate_left
            · simp only [Act.put, List.setIfInBounds_toArray, List.set_cons_zero, List.set_cons_succ, i64_w, i32_w]
              rfl
            refine pure_ (i := 3) (N := some 71) (v := ?_) (a' := ?_) #[true, false, true, true, false, false, false, false, false, false, false, false, false, false, false, false] rfl rfl (by kernel_rfl) (fun _ _ _ h => h) (Or.inl ⟨by rfl, ?_⟩) ?_ ?_
            rotate_left
            · intro w'
              first | (go_simp; with_reducible rfl) | (simp [go_sem, Instr.field, asAgg] <;> with_reducible rfl)
            rotate_left
            · simp only [Act.put, List.setIfInBounds_toArray, List.set_cons_zero, List.set_cons_succ, i64_w, i32_w]
              rfl
            refine pure_ (i := 4) (N := some 72) (v := ?_) (a' := ?_) #[true, false, true, true, true, false, false, false, false, false, false, false, false, false, false, false] rfl rfl (by kernel_rfl) (fun _ _ _ h => h) (Or.inl ⟨by rfl, ?_⟩) ?_ ?_
            rotate_left
            · intro w'
              first | (go_simp; with_reducible rfl) | (simp [go_sem, Instr.field, asAgg] <;> with_reducible rfl)
            rotate_left
            · simp only [Act.put, List.setIfInBounds_toArray, List.set_cons_zero, List.set_cons_succ, i64_w, i32_w]
              rfl
            refine pure_ (i := 6) (N := some 74) (v := ?_) (a' := ?_) #[true, false, true, true, true, false, true, false, false, false, false, false, false, false, false, false] rfl rfl (by kernel_rfl) (fun _ _ _ h => h) (Or.inl ⟨by rfl, ?_⟩) ?_ ?_
            rotate_left
            · intro w'
              first | (go_simp; with_reducible rfl) | (simp [go_sem, Instr.field, asAgg] <;> with_reducible rfl)
            rotate_left
            · simp only [Act.put, List.setIfInBounds_toArray, List.set_cons_zero, List.set_cons_succ, i64_w, i32_w]
              rfl
            refine pure_ (i := 8) (N := some 76) (v := ?_) (a' := ?_) #[true, false, true, true, true, false, true, false, true, false, false, false, false, false, false, false] rfl rfl (by kernel_rfl) (fun _ _ _ h => h) (Or.inl ⟨by rfl, ?_⟩) ?_ ?_
            rotate_left
            · intro w'
              first | (go_simp; with_reducible rfl) | (simp [go_sem, Instr.field, asAgg] <;> with_reducible rfl)
            rotate_left
            · simp only [Act.put, List.setIfInBounds_toArray, List.set_cons_zero, List.set_cons_succ, i64_w, i32_w]
              rfl
            refine pure_ (i := 9) (N := some 77) (v := ?_) (a' := ?_) #[true, false, true, true, true, false, true, false, true, true, false, false, false, false, false, false] rfl rfl (by kernel_rfl) (fun _ _ _ h => h) (Or.inl ⟨by rfl, ?_⟩) ?_ ?_
            rotate_left
            · intro w'
              first | (go_simp; with_reducible rfl) | (simp [go_sem, Instr.field, asAgg] <;> with_reducible rfl)
            rotate_left
            · simp only [Act.put, List.setIfInBounds_toArray, List.set_cons_zero, List.set_cons_succ, i64_w, i32_w]
              rfl
            refine pure_ (i := 10) (N := some 78) (v := ?_) (a' := ?_) #[true, false, true, true, true, false, true, false, true, true, true, false, false, false, false, false] rfl rfl (by kernel_rfl) (fun _ _ _ h => h) (Or.inl ⟨by rfl, ?_⟩) ?_ ?_
            rotate_left
            · intro w'
              first | (go_simp; with_reducible rfl) | (simp [go_sem, Instr.field, asAgg] <;> with_reducible rfl)
            rotate_left
            · simp only [Act.put, List.setIfInBounds_toArray, List.set_cons_zero, List.set_cons_succ, i64_w, i32_w]
              rfl
            refine take_ (i := 1) (N := some 69) (v := ?_) (a' := ?_) #[true, true, true, true, true, false, true, false, true, true, true, false, false, false, false, false] rfl rfl (by kernel_rfl) (fun _ _ _ h => h) (Or.inl ⟨by rfl, ?_⟩) hHeld ?_ ?_
            rotate_left
            · rintro w' ⟨s0, s1⟩
              go_simp
              with_reducible rfl
            rotate_left
            · simp only [Act.put, List.setIfInBounds_toArray, List.set_cons_zero, List.set_cons_succ, i64_w, i32_w]
              rfl
            refine take_ (i := 5) (N := some 73) (v := ?_) (a' := ?_) #[true, true, true, true, true, true, true, false, true, true, true, false, false, false, false, false] rfl rfl (by kernel_rfl) (fun _ _ _ h => h) (Or.inl ⟨by rfl, ?_⟩) hHeld ?_ ?_
            rotate_left
            · rintro w' ⟨s0, s1⟩
              go_simp
              with_reducible rfl
            rotate_left
            · simp only [Act.put, List.setIfInBounds_toArray, List.set_cons_zero, List.set_cons_succ, i64_w, i32_w]
              rfl
            refine pure_ (i := 7) (N := some 75) (v := ?_) (a' := ?_) #[true, true, true, true, true, true, true, true, true, true, true, false, false, false, false, false] rfl rfl (by kernel_rfl) (fun _ _ _ h => h) (Or.inl ⟨by rfl, ?_⟩) ?_ ?_
            rotate_left
            · intro w'
              first | (go_simp; with_reducible rfl) | (simp [go_sem, Instr.field, asAgg] <;> with_reducible rfl)
            rotate_left
            · simp only [Act.put, List.setIfInBounds_toArray, List.set_cons_zero, List.set_cons_succ, i64_w, i32_w]
              rfl
            refine one_ (i := 11) (N := some 79) #[true, true, true, true, true, true, true, true, true, true, true, true, false, false, false, false] rfl rfl (by kernel_rfl) (by decide) (fun K hK => ?_)
            refine goes_ Try.func74 (by kernel_rfl) rfl #[.pointer (some (ad2.add (i.toNat * 3))), .int .i64 h, .pointer (some ap), .pointer (some ⟨gL, 0, none⟩)] (by rfl) rfl rfl (by simp only [List.map_toArray, List.map_cons, List.map_nil]; rfl) ?_
            with_reducible refine (IH.out k1 (by have := HK1.out; omega) _ ap gL (rd_T29 x.f2 i) b h lq tl t w0 _ HB1.out HE.out HQ.out HGL.out BL1.out A7.out).mono ?_
            rintro e w6 ⟨v, rfl, hS, hb, hk, hL⟩
            refine ⟨_, rfl, ?_⟩
            have HSv := Aside0.mk (Kd.S_lower (base' := w.heap.size) (Kd.S_mono (Kd.S_bound hS) (ok' := fun k_ => NO ≤ k_) (fun k_ hk_ => Nat.le_trans (by exact HNS.out) hk_.2.1)) HKw.out.1)
            obtain ⟨Av, cv, ev_⟩ := Kd.S_slice HSv.out
            subst ev_
            clear hS
            have n1_ := Aside0.mk (Kept.then_ HKw.out hk (fun _ h_ => .inl h_))
            have n2_ := Aside0.mk (blk_kept (g := g9) (o := .cells #[.int .i64 x.f0, .int .i64 x.f1, .slice Ao out.length co] 29 (0, 0)) B91.out hk (fun h_ => hnL9 h_.symm))
            have n3_ := Aside0.mk (blk_kept (g := g8) (o := .cells #[.int .i64 0, .int .i64 0, .slice none 0 0] 29 (0, 0)) B81.out hk (fun h_ => hn8L h_))
            have n4_ := Aside0.mk (Kd.S_kept HO1.out hk (fun k_ hk_ h_ => by have h1_ := hk_.1; have h2_ : k_ = gL := h_; have := HLT.out; have := HLG.out; omega))
            have n5_ := Aside0.mk (Nat.le_trans HNS.out hk.1)
            clear HB1 HKw B91 B81 BL1 HO1 HNS hk
            have HB1 := Aside0.mk hb
            have BL1 := Aside0.mk hL
            have HKw := n1_
            have B91 := n2_
            have B81 := n3_
            have HO1 := n4_
            have HNS := n5_
            clear n1_ n2_ n3_ n4_ n5_ hb hL
            refine hK.out _ _ ⟨(blk_cell (by (with_reducible repeat (first | refine blk_drewN ?_ _ | refine blk_drew ?_ | refine blk_alloc ?_ _)); exact B91.out) 2).trans rfl, ((show Below w0.heap.size w0 _ from (by repeat (first | (with_reducible first | exact HB1.out | apply below_alloc | apply pw_below_drewN | apply below_drew1) | exact HB1.out))).cell (World.block_lt_of_cell? w0 _ hq2.out)).trans hq2.out⟩ (fun hHeld => ?_)
            clear hK K
            refine norm_ (a' := ?_) ?_ ?_
            rotate_left
            · show Act.put _ (some 79) _ = _
              simp only [Act.put, List.setIfInBounds_toArray, List.set_cons_zero, List.set_cons_succ, i64_w, i32_w]
              rfl
            refine one_ (i := 12) (N := some 80) #[true, true, true, true, true, true, true, true, true, true, true, true, true, false, false, false] rfl rfl (by kernel_rfl) (by decide) (fun K hK => ?_)
            refine value_ (w1 := ?_) (v := ?_) (by rfl) rfl ?_ ?_
            rotate_left 2
            · go_simp
              constructor
              · rfl
              · rfl
            refine hK.out _ _ ⟨(blk_cell (by (with_reducible repeat (first | refine blk_drewN ?_ _ | refine blk_drew ?_ | refine blk_alloc ?_ _)); exact B91.out) 2).trans rfl, ((show Below w0.heap.size w0 _ from (by repeat (first | (with_reducible first | exact HB1.out | apply below_alloc | apply pw_below_drewN | apply below_drew1) | exact HB1.out))).cell (World.block_lt_of_cell? w0 _ hq2.out)).trans hq2.out⟩ (fun hHeld => ?_)
            clear hK K
            refine norm_ (a' := ?_) ?_ ?_
            rotate_left
            · show Act.put _ (some 80) _ = _
              simp only [Act.put, List.setIfInBounds_toArray, List.set_cons_zero, List.set_cons_succ, i64_w, i32_w]
              rfl
            refine last_ (i := 13) (N := some 81) #[true, true, true, true, true, true, true, true, true, true, true, true, true, true, false, false] rfl rfl (by kernel_rfl) (by decide) (fun K hK => ?_)
            refine Kd.S_append_step kG (w0 := w6) w.heap.size (by rfl) (.tmp 69) (.tmp 80) 27 29 (.agg #[.int .i64 0, .int .i64 0, .slice none 0 0]) 40 rfl Try.underlying27 info29 rfl (by decide) (by omega) (.slice Ao out.length co) out t [.int .i64 t.f0, .int .i64 t.f1, .slice Av t.f2.length cv] (fun k_ => g9 < k_) (fun k_ => NO ≤ k_) rfl rfl ?aP ?aK ?aF ?aO ?aB ?aS ?aL ?_
            (case aP => exact kG_mkM (x := t) HSv.out)
            (case aK => exact fun k_ hk_ => ⟨Nat.lt_of_lt_of_le HLN.out hk_, fun e_ => by have h_ := ((Kd.S_R HO1.out).1 k_ e_.symm).2; omega⟩)
            (case aF => exact fun k_ hk_ => Nat.lt_of_lt_of_le (blk_lt B91.out) hk_)
            (case aO => exact Kd.S_mono HO1.out (fun k_ hk_ => ⟨hk_.1, Nat.not_le.2 hk_.2⟩))
            (case aB => exact Below.refl _ _)
            (case aS => exact HKw.out.1)
            (case aL => have := LM.out; omega)
            intro v7b w7 ho hb hg hat
            have hown : ∀ k_, (.slice Ao out.length co : Value).ownBlock = some k_ → g9 < k_ := fun k_ e_ => ((Kd.S_R HO1.out).1 k_ e_).1
            have n1_ := Aside0.mk (blk_grown (g := g8) (o := .cells #[.int .i64 0, .int .i64 0, .slice none 0 0] 29 (0, 0)) B81.out hg (fun e_ => by have := hown _ e_.symm; have := HLT.out; omega))
            have n2_ := Aside0.mk (blk_grown (g := g9) (o := .cells #[.int .i64 x.f0, .int .i64 x.f1, .slice Ao out.length co] 29 (0, 0)) B91.out hg (fun e_ => by have := hown _ e_.symm; omega))
            have n3_ := Aside0.mk (blk_grown (g := gL) (o := .cells #[.int .i64 tl] 2 (0, 0)) BL1.out hg (fun e_ => by have := hown _ e_.symm; have := HLT.out; have := HLG.out; omega))
            have n4_ := Aside0.mk (pw_below_grown HB1.out _ (below_size HB1.out) hg (fun k_ e_ => by have := hown _ e_; omega))
            have n5_ := Aside0.mk (Kept.of_grown hg HKw.out (fun k_ e_ => .inr (by have := hown _ e_; have := GW_g9.out; omega)))
            obtain ⟨Ap, cp, ep⟩ := Kd.S_slice ho
            subst ep
            rw [show (out ++ [t]).length = out.length + 1 by simp] at ho
            clear hg hat hown HO1 B81 B91 BL1 HB1 HKw HSv HNS
            have HO8 := Aside0.mk ho
            have B88 := n1_
            have B98 := n2_
            have BL8 := n3_
            have HB8 := n4_
            have HK8 := n5_
            clear n1_ n2_ n3_ n4_ n5_ ho hb
            have hz_90 : w7.cell? ⟨g9, 0, none⟩ = some (.int .i64 x.f0) := (blk_cell B98.out 0).trans rfl
            have hz_9f0 := blk_frozen B98.out 0
            have hz_91 : w7.cell? ⟨g9, 1, none⟩ = some (.int .i64 x.f1) := (blk_cell B98.out 1).trans rfl
            have hz_9f1 := blk_frozen B98.out 1
            have hz_92 : w7.cell? ⟨g9, 2, none⟩ = some (.slice Ao out.length co) := (blk_cell B98.out 2).trans rfl
            have hz_9f2 := blk_frozen B98.out 2
            refine hK.out _ _ ?_
            clear hK K
            refine norm_ (a' := ?_) ?_ ?_
            rotate_left
            · show Act.put _ (some 81) _ = _
              simp only [Act.put, List.setIfInBounds_toArray, List.set_cons_zero, List.set_cons_succ, i64_w, i32_w]
              rfl
            refine pure_ (i := 14) (N := some 82) (v := ?_) (a' := ?_) #[true, true, true, true, true, true, true, true, true, true, true, true, true, true, true, false] rfl rfl (by kernel_rfl) (fun _ _ _ h => h) (Or.inl ⟨by rfl, ?_⟩) ?_ ?_
            rotate_left
            · intro w'
              first | (go_simp; with_reducible rfl) | (simp [go_sem, Instr.field, asAgg] <;> with_reducible rfl)
            rotate_left
            · simp only [Act.put, List.setIfInBounds_toArray, List.set_cons_zero, List.set_cons_succ, i64_w, i32_w]
              rfl
            refine last_ (i := 15) (N := none) #[true, true, true, true, true, true, true, true, true, true, true, true, true, true, true, true] rfl rfl (by kernel_rfl) (by decide) (fun K hK => ?_)
            refine skip_ (w1 := ?_) (by rfl) rfl ?_ ?_
            rotate_left
            · go_simp
              rfl
            refine hK.out _ _ ?_
            clear hK K
            refine done_ (by kernel_rfl) ?_
            (try clear hHeld)
            (try go_wp2)
            go_roundg k1
            case measure => have := HK1.out; omega
            case rel => exact ⟨_, out ++ [t], _, _, rfl, HF, ⟨by have := HK1.out; omega⟩, ⟨Kd.S_far (p := ⟨g9, 2, none⟩) HO8.out (fun k_ hk_ => by have h_ : g9 < k_ := hk_; show k_ ≠ g9; omega) _⟩, ⟨blk_put B98.out 2 _ rfl⟩, ⟨blk_far B88.out hn89 _⟩, ⟨blk_far BL8.out hnL9 _⟩, ⟨below_set HB8.out hg9⟩, ⟨Kept.setCell HK8.out (.inr GW_g9.out) _⟩⟩
          · rw [if_neg c5] at H'
            obtain ⟨rfl, rfl⟩ := Prod.mk.inj (Option.some.inj H')
            clear H'
            have c5b : decide (lq ≥ 0) = false := decide_eq_false c5
            have c5c : decide (0 ≤ lq) = false := decide_eq_false c5
            clear c5 c6
            go_wp2
            have hg0 : w0.heap.size ≤ g8 := by have := HS0.out; have := GW_g8.out; omega
            have hnL8 : gL ≠ g8 := by have := HLG.out; omega
            refine bodyPost_ret (results_cell_row rfl _ _ g8 29 #[.int .i64 x.f0, .int .i64 x.f1, .slice Ao out.length co] (0, 0) _ rfl (by (with_reducible repeat (first | refine blk_drewN ?_ _ | refine blk_drew ?_ | refine blk_alloc ?_ _)); refine blk_put (cs := #[.int .i64 x.f0, .int .i64 x.f1, .slice none 0 0]) ?_ 2 _ rfl; (with_reducible repeat (first | refine blk_drewN ?_ _ | refine blk_drew ?_ | refine blk_alloc ?_ _)); refine blk_put (cs := #[.int .i64 x.f0, .int .i64 0, .slice none 0 0]) ?_ 1 _ rfl; (with_reducible repeat (first | refine blk_drewN ?_ _ | refine blk_drew ?_ | refine blk_alloc ?_ _)); refine blk_put (cs := #[.int .i64 0, .int .i64 0, .slice none 0 0]) ?_ 0 _ rfl; (with_reducible repeat (first | refine blk_drewN ?_ _ | refine blk_drew ?_ | refine blk_alloc ?_ _)); exact B80.out) Try.underlying29 rfl (by kernel_rfl)) rfl ?_
            exact ⟨_, rfl, Kd.S_mono (Kd.S_far (p := ⟨g8, 2, none⟩) (Kd.S_far (p := ⟨g8, 1, none⟩) (Kd.S_far (p := ⟨g8, 0, none⟩) HO.out (fun k_ hk_ => by have h_ : g9 < k_ := hk_; have := HLT.out; show k_ ≠ g8; omega) _) (fun k_ hk_ => by have h_ : g9 < k_ := hk_; have := HLT.out; show k_ ≠ g8; omega) _) (fun k_ hk_ => by have h_ : g9 < k_ := hk_; have := HLT.out; show k_ ≠ g8; omega) _) (fun _ _ => trivial), (by repeat (first | (with_reducible first | exact HB0.out | apply below_alloc | apply pw_below_drewN | apply below_drew1 | refine below_set ?_ hg0) | exact HB0.out)), Kept.setCell (Kept.setCell (Kept.setCell (by repeat (first | exact HK0.out | apply Kept.alloc | apply Kept.drewN | apply Kept.drew)) (.inr GW_g8.out) _) (.inr GW_g8.out) _) (.inr GW_g8.out) _, blk_far (blk_far (blk_far (by (with_reducible repeat (first | refine blk_drewN ?_ _ | refine blk_drew ?_ | refine blk_alloc ?_ _)); exact BL0.out) hnL8 _) hnL8 _) hnL8 _⟩
        · rw [if_neg c6] at H'
          obtain ⟨rfl, rfl⟩ := Prod.mk.inj (Option.some.inj H')
          clear H'
          have c6b0 : decide (i < (x.f2.length : Int)) = false := decide_eq_false c6
          clear c6
          go_wp2
          have hg0 : w0.heap.size ≤ g8 := by have := HS0.out; have := GW_g8.out; omega
          have hnL8 : gL ≠ g8 := by have := HLG.out; omega
          refine bodyPost_ret (results_cell_row rfl _ _ g8 29 #[.int .i64 x.f0, .int .i64 x.f1, .slice Ao out.length co] (0, 0) _ rfl (by (with_reducible repeat (first | refine blk_drewN ?_ _ | refine blk_drew ?_ | refine blk_alloc ?_ _)); refine blk_put (cs := #[.int .i64 x.f0, .int .i64 x.f1, .slice none 0 0]) ?_ 2 _ rfl; (with_reducible repeat (first | refine blk_drewN ?_ _ | refine blk_drew ?_ | refine blk_alloc ?_ _)); refine blk_put (cs := #[.int .i64 x.f0, .int .i64 0, .slice none 0 0]) ?_ 1 _ rfl; (with_reducible repeat (first | refine blk_drewN ?_ _ | refine blk_drew ?_ | refine blk_alloc ?_ _)); refine blk_put (cs := #[.int .i64 0, .int .i64 0, .slice none 0 0]) ?_ 0 _ rfl; (with_reducible repeat (first | refine blk_drewN ?_ _ | refine blk_drew ?_ | refine blk_alloc ?_ _)); exact B80.out) Try.underlying29 rfl (by kernel_rfl)) rfl ?_
          exact ⟨_, rfl, Kd.S_mono (Kd.S_far (p := ⟨g8, 2, none⟩) (Kd.S_far (p := ⟨g8, 1, none⟩) (Kd.S_far (p := ⟨g8, 0, none⟩) HO.out (fun k_ hk_ => by have h_ : g9 < k_ := hk_; have := HLT.out; show k_ ≠ g8; omega) _) (fun k_ hk_ => by have h_ : g9 < k_ := hk_; have := HLT.out; show k_ ≠ g8; omega) _) (fun k_ hk_ => by have h_ : g9 < k_ := hk_; have := HLT.out; show k_ ≠ g8; omega) _) (fun _ _ => trivial), (by repeat (first | (with_reducible first | exact HB0.out | apply below_alloc | apply pw_below_drewN | apply below_drew1 | refine below_set ?_ hg0) | exact HB0.out)), Kept.setCell (Kept.setCell (Kept.setCell (by repeat (first | exact HK0.out | apply Kept.alloc | apply Kept.drewN | apply Kept.drew)) (.inr GW_g8.out) _) (.inr GW_g8.out) _) (.inr GW_g8.out) _, blk_far (blk_far (blk_far (by (with_reducible repeat (first | refine blk_drewN ?_ _ | refine blk_drew ?_ | refine blk_alloc ?_ _)); exact BL0.out) hnL8 _) hnL8 _) hnL8 _⟩

end Go.Proofs.Ytjnobnmjhpmpfaa.P

namespace Go.Proofs.Ytjnobnmjhpmpfaa.P
open Go.RowKit Go.Proofs.YtjnobnmjhpmpfaaW.PrintWords Go.Proofs.YtjnobnmjhpmpfaaW.PrintLast Go.Proofs.YtjnobnmjhpmpfaaW.PrintMore
attribute [local go_sem] max2_int min2_int max_two min_two max_three min_three max_four min_four
set_option linter.unusedVariables false
set_option linter.unusedSimpArgs false

set_option maxHeartbeats 8000000 in
set_option maxRecDepth 100000 in
theorem impl_node.callsT (a0 : Int) (A1 : Option Addr) (n1 c1 : Nat) (w : World) :
    Calls Try.prog 56 #[.int .i64 a0, .slice A1 n1 c1] w fun e w' => e = .returned (.agg #[.int .i64 (-1), .int .i64 a0, .slice A1 n1 c1]) ∧ Below w.heap.size w w' := by
  have hu29 := Try.underlying29
  have HB := Aside0.mk (Below.refl w.heap.size w)
  go_enter Try.func56, Try.ntmps56
  go_wp2_with (first | ((with_reducible refine gate_dst (N := 4) rfl ?_); refine box_event ?hg (N := 4) ?hd (cs := #[.int .i64 0, .int .i64 0, .slice none 0 0]) (t := 29) ?hr ?_; (case hd => rfl); (case hg => rfl); (case hr => first | (go_simp; done) | (go_simp; rfl)); intro g hg w1 hbox hb; have n0_ := Aside0.mk (below_step (by repeat (first | (with_reducible first | exact HB.out | apply below_alloc | apply pw_below_drewN | apply below_drew1) | exact HB.out)) hb); have GW_g := Aside0.mk ((by rw [hg]; exact below_size (by repeat (first | (with_reducible first | exact HB.out | apply below_alloc | apply pw_below_drewN | apply below_drew1) | exact HB.out))) : w.heap.size ≤ g); clear HB ; have HB := n0_; clear n0_; have BK_g := Aside0.mk hbox; clear hbox hb hg; have hz_g0 : w1.cell? ⟨g, 0, none⟩ = some (.int .i64 0) := (blk_cell BK_g.out 0).trans rfl; have hz_gf0 := blk_frozen BK_g.out 0; have hz_g1 : w1.cell? ⟨g, 1, none⟩ = some (.int .i64 0) := (blk_cell BK_g.out 1).trans rfl; have hz_gf1 := blk_frozen BK_g.out 1; have hz_g2 : w1.cell? ⟨g, 2, none⟩ = some (.slice none 0 0) := (blk_cell BK_g.out 2).trans rfl; have hz_gf2 := blk_frozen BK_g.out 2))
  refine bodyPost_ret (results_cell_row rfl _ _ g 29 #[.int .i64 (-1), .int .i64 a0, .slice A1 n1 c1] (0, 0) _ rfl (by (with_reducible repeat (first | refine blk_drewN ?_ _ | refine blk_drew ?_ | refine blk_alloc ?_ _)); refine blk_put (cs := #[.int .i64 (-1), .int .i64 a0, .slice none 0 0]) ?_ 2 _ rfl; (with_reducible repeat (first | refine blk_drewN ?_ _ | refine blk_drew ?_ | refine blk_alloc ?_ _)); refine blk_put (cs := #[.int .i64 (-1), .int .i64 0, .slice none 0 0]) ?_ 1 _ rfl; (with_reducible repeat (first | refine blk_drewN ?_ _ | refine blk_drew ?_ | refine blk_alloc ?_ _)); refine blk_put (cs := #[.int .i64 0, .int .i64 0, .slice none 0 0]) ?_ 0 _ rfl; (with_reducible repeat (first | refine blk_drewN ?_ _ | refine blk_drew ?_ | refine blk_alloc ?_ _)); exact BK_g.out) Try.underlying29 rfl (by kernel_rfl)) rfl ?_
  exact ⟨rfl, (by repeat (first | (with_reducible first | exact HB.out | apply below_alloc | apply pw_below_drewN | apply below_drew1 | refine below_set ?_ GW_g.out) | exact HB.out))⟩
set_option maxHeartbeats 8000000 in
set_option maxRecDepth 100000 in
theorem impl_leafOf.callsT (a0 : Int) (w : World) :
    Calls Try.prog 54 #[.int .i64 a0] w fun e w' => e = .returned (.agg #[.int .i64 a0, .int .i64 0, .slice none 0 0]) ∧ Below w.heap.size w w' := by
  have hu29 := Try.underlying29
  have HB := Aside0.mk (Below.refl w.heap.size w)
  go_enter Try.func54, Try.ntmps54
  go_wp2_with (first | ((with_reducible refine gate_dst (N := 2) rfl ?_); refine box_event ?hg (N := 2) ?hd (cs := #[.int .i64 0, .int .i64 0, .slice none 0 0]) (t := 29) ?hr ?_; (case hd => rfl); (case hg => rfl); (case hr => first | (go_simp; done) | (go_simp; rfl)); intro g hg w1 hbox hb; have n0_ := Aside0.mk (below_step (by repeat (first | (with_reducible first | exact HB.out | apply below_alloc | apply pw_below_drewN | apply below_drew1) | exact HB.out)) hb); have GW_g := Aside0.mk ((by rw [hg]; exact below_size (by repeat (first | (with_reducible first | exact HB.out | apply below_alloc | apply pw_below_drewN | apply below_drew1) | exact HB.out))) : w.heap.size ≤ g); clear HB ; have HB := n0_; clear n0_; have BK_g := Aside0.mk hbox; clear hbox hb hg; have hz_g0 : w1.cell? ⟨g, 0, none⟩ = some (.int .i64 0) := (blk_cell BK_g.out 0).trans rfl; have hz_gf0 := blk_frozen BK_g.out 0; have hz_g1 : w1.cell? ⟨g, 1, none⟩ = some (.int .i64 0) := (blk_cell BK_g.out 1).trans rfl; have hz_gf1 := blk_frozen BK_g.out 1; have hz_g2 : w1.cell? ⟨g, 2, none⟩ = some (.slice none 0 0) := (blk_cell BK_g.out 2).trans rfl; have hz_gf2 := blk_frozen BK_g.out 2))
  refine bodyPost_ret (results_cell_row rfl _ _ g 29 #[.int .i64 a0, .int .i64 0, .slice none 0 0] (0, 0) _ rfl (by (with_reducible repeat (first | refine blk_drewN ?_ _ | refine blk_drew ?_ | refine blk_alloc ?_ _)); refine blk_put (cs := #[.int .i64 a0, .int .i64 0, .slice none 0 0]) ?_ 2 _ rfl; (with_reducible repeat (first | refine blk_drewN ?_ _ | refine blk_drew ?_ | refine blk_alloc ?_ _)); refine blk_put (cs := #[.int .i64 a0, .int .i64 0, .slice none 0 0]) ?_ 1 _ rfl; (with_reducible repeat (first | refine blk_drewN ?_ _ | refine blk_drew ?_ | refine blk_alloc ?_ _)); refine blk_put (cs := #[.int .i64 0, .int .i64 0, .slice none 0 0]) ?_ 0 _ rfl; (with_reducible repeat (first | refine blk_drewN ?_ _ | refine blk_drew ?_ | refine blk_alloc ?_ _)); exact BK_g.out) Try.underlying29 rfl (by kernel_rfl)) rfl ?_
  exact ⟨rfl, (by repeat (first | (with_reducible first | exact HB.out | apply below_alloc | apply pw_below_drewN | apply below_drew1 | refine below_set ?_ GW_g.out) | exact HB.out))⟩
theorem told_S {w w' : World} {b : Nat} {ok : Nat → Prop} {A : Option Addr} {c : Nat} {l r : List S29} {v : Value} (hs : Kd.S kG 29 w b ok (.slice A l.length c) l) (hb : Below w.heap.size w w') (h : (v = .slice A l.length c ∧ r = l) ∨ (v = .slice none 0 0 ∧ r = [])) : Kd.S kG 29 w' b ok v r := by
  rcases h with ⟨rfl, rfl⟩ | ⟨rfl, rfl⟩
  · exact Kd.S_below hs hb
  · exact Kd.S_nil _ _ _ _ _

end Go.Proofs.Ytjnobnmjhpmpfaa.P
