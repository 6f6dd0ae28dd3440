/- For all arguments the program's TidyGate and the reference's answer alike, the argument stays, and the result is memory of its own. This text: the theorem of the row, and part 3 of what it rests on. -/
import Derived.Test.YtjnobnmjhpmpfaaCFnExactTidyGateb
import Derived.Below
import Derived.Carry
import Derived.ChangeArms
import Derived.ChangeOld
import Derived.Deep.Slices
import Derived.OpenShut
import Derived.ProofKit
import Derived.Shelf.Abstract
import Derived.ShutString
import Derived.SizedLaws
import Derived.Test.YtjnobnmjhpmpfaaRows
import Derived.WalkKit
import Derived.WideShapes
namespace Go.Proofs.Ytjnobnmjhpmpfaa.P
open Go.RowKit Go.Proofs.YtjnobnmjhpmpfaaW.PrintWords Go.Proofs.YtjnobnmjhpmpfaaW.PrintLast Go.Proofs.YtjnobnmjhpmpfaaW.PrintMore
attribute [local go_sem] max2_int min2_int max_two min_two max_three min_three max_four min_four
set_option linter.unusedVariables false
set_option linter.unusedSimpArgs false

set_option maxHeartbeats 8000000 in
set_option maxRecDepth 100000 in
theorem tidyOne.calls (a0 a1 : Int) (A : Option Addr) (c : Nat) (l : List S29) (w : World) :
    Calls Try.prog 72 #[.agg #[.int .i64 a0, .int .i64 a1, .slice A l.length c]] w fun e w' => e = .returned (.bool (a1 == 1)) ∧ Below w.heap.size w w' := by
  have hu29 := Try.underlying29
  have HB := Aside0.mk (Below.refl w.heap.size w)
  go_enter Try.func72, Try.ntmps72
  go_wp2_with (first | ((with_reducible refine gate_dst (N := 1) rfl ?_); refine box_event ?hg (N := 1) ?hd (cs := #[.int .i64 a0, .int .i64 a1, .slice A l.length c]) (t := 29) ?hr ?_; (case hd => rfl); (case hg => rfl); (case hr => first | (go_simp; done) | (go_simp; rfl)); intro g hg w1 hbox hb; have n0_ := Aside0.mk (below_step (by repeat (first | (with_reducible first | exact HB.out | apply below_alloc | apply pw_below_drewN | apply below_drew1) | exact HB.out)) hb); have GW_g := Aside0.mk ((by rw [hg]; exact below_size (by repeat (first | (with_reducible first | exact HB.out | apply below_alloc | apply pw_below_drewN | apply below_drew1) | exact HB.out))) : w.heap.size ≤ g); clear HB ; have HB := n0_; clear n0_; have BK_g := Aside0.mk hbox; clear hbox hb hg; have hz_g0 : w1.cell? ⟨g, 0, none⟩ = some (.int .i64 a0) := (blk_cell BK_g.out 0).trans rfl; have hz_gf0 := blk_frozen BK_g.out 0; have hz_g1 : w1.cell? ⟨g, 1, none⟩ = some (.int .i64 a1) := (blk_cell BK_g.out 1).trans rfl; have hz_gf1 := blk_frozen BK_g.out 1; have hz_g2 : w1.cell? ⟨g, 2, none⟩ = some (.slice A l.length c) := (blk_cell BK_g.out 2).trans rfl; have hz_gf2 := blk_frozen BK_g.out 2))
  go_ret
  exact ⟨rfl, (by repeat (first | (with_reducible first | exact HB.out | apply below_alloc | apply pw_below_drewN | apply below_drew1 | refine below_set ?_ GW_g.out) | exact HB.out))⟩
set_option maxHeartbeats 8000000 in
set_option maxRecDepth 100000 in
theorem tidyAll.calls (a0 a1 : Int) (A : Option Addr) (c : Nat) (l : List S29) (w : World) :
    Calls Try.prog 73 #[.agg #[.int .i64 a0, .int .i64 a1, .slice A l.length c]] w fun e w' => e = .returned (.bool (a1 == (l.length : Int))) ∧ Below w.heap.size w w' := by
  have hu29 := Try.underlying29
  have HB := Aside0.mk (Below.refl w.heap.size w)
  go_enter Try.func73, Try.ntmps73
  go_wp2_with (first | ((with_reducible refine gate_dst (N := 1) rfl ?_); refine box_event ?hg (N := 1) ?hd (cs := #[.int .i64 a0, .int .i64 a1, .slice A l.length c]) (t := 29) ?hr ?_; (case hd => rfl); (case hg => rfl); (case hr => first | (go_simp; done) | (go_simp; rfl)); intro g hg w1 hbox hb; have n0_ := Aside0.mk (below_step (by repeat (first | (with_reducible first | exact HB.out | apply below_alloc | apply pw_below_drewN | apply below_drew1) | exact HB.out)) hb); have GW_g := Aside0.mk ((by rw [hg]; exact below_size (by repeat (first | (with_reducible first | exact HB.out | apply below_alloc | apply pw_below_drewN | apply below_drew1) | exact HB.out))) : w.heap.size ≤ g); clear HB ; have HB := n0_; clear n0_; have BK_g := Aside0.mk hbox; clear hbox hb hg; have hz_g0 : w1.cell? ⟨g, 0, none⟩ = some (.int .i64 a0) := (blk_cell BK_g.out 0).trans rfl; have hz_gf0 := blk_frozen BK_g.out 0; have hz_g1 : w1.cell? ⟨g, 1, none⟩ = some (.int .i64 a1) := (blk_cell BK_g.out 1).trans rfl; have hz_gf1 := blk_frozen BK_g.out 1; have hz_g2 : w1.cell? ⟨g, 2, none⟩ = some (.slice A l.length c) := (blk_cell BK_g.out 2).trans rfl; have hz_gf2 := blk_frozen BK_g.out 2))
  go_ret
  exact ⟨rfl, (by repeat (first | (with_reducible first | exact HB.out | apply below_alloc | apply pw_below_drewN | apply below_drew1 | refine below_set ?_ GW_g.out) | exact HB.out))⟩
/-- A closure that is asked of a gate. -/
structure IsHyp (isV : S29 → Bool) (gi : Nat) (lb : Array Value) : Prop where
  ei : ∀ args w, (callFunc gi args).run Try.prog w = .ok (.enter gi args) w
  is_ : ∀ (x : S29) (A : Option Addr) (c : Nat) (w : World) (r : Bool), isV x = r → Calls Try.prog gi (#[.agg #[.int .i64 x.f0, .int .i64 x.f1, .slice A x.f2.length c]] ++ lb) w fun e w' => e = .returned (.bool r) ∧ Below w.heap.size w w'
theorem tidyOne_hyp : IsHyp (fun x => x.f1 == 1) 72 #[] where
  ei := enters_of Try.func72 (by kernel_rfl) rfl
  is_ := fun x A c w r h => by subst h; exact tidyOne.calls x.f0 x.f1 A c x.f2 w
theorem tidyAll_hyp : IsHyp (fun x => x.f1 == (x.f2.length : Int)) 73 #[] where
  ei := enters_of Try.func73 (by kernel_rfl) rfl
  is_ := fun x A c w r h => by subst h; exact tidyAll.calls x.f0 x.f1 A c x.f2 w
/-- The elements of a row of one's own: their cells, and what is theirs alone. -/
theorem tidy_open {W : World} {b : Nat} {ok : Nat → Prop} {A : Option Addr} {n c : Nat} {kids : List S29} (hS : Kd.S kG 29 W b ok (.slice A n c) kids) : ∃ f : Nat → Nat, ∀ i : Int, i < (kids.length : Int) → 0 ≤ i → ∃ ad A2 c2, A = some ad ∧ W.cell? (ad.add (i.toNat * 3)) = some (.int .i64 (rd_T29 kids i).f0) ∧ W.cell? ⟨(ad.add (i.toNat * 3)).block, (ad.add (i.toNat * 3)).off + 1, none⟩ = some (.int .i64 (rd_T29 kids i).f1) ∧ W.cell? ⟨(ad.add (i.toNat * 3)).block, (ad.add (i.toNat * 3)).off + 2, none⟩ = some (.slice A2 (rd_T29 kids i).f2.length c2) ∧ Kd.S kG 29 W b (fun k => (ok k ∧ some k ≠ (Value.slice A n c).ownBlock) ∧ f k = i.toNat ∧ k < W.heap.size) (.slice A2 (rd_T29 kids i).f2.length c2) (rd_T29 kids i).f2 := by
  have hn := (Kd.S_reads' hS).1
  subst hn
  have hC := kG_C (Kd.S_reads' hS).2.2
  obtain ⟨f, hR⟩ := hS
  refine ⟨f, fun i h1 h0 => ?_⟩
  obtain ⟨ad, _, _, e, _⟩ := at_T29 hC i h0 h1
  subst e
  obtain ⟨c', hcl, hM, hcc⟩ := Kd.R_getA hR ((⟨0, 0, []⟩ : S29), 0) i h0 h1
  have hlt : i.toNat < kids.length := by omega
  have hz : kids.zipIdx.getD i.toNat ((⟨0, 0, []⟩ : S29), 0) = (rd_T29 kids i, i.toNat) := by unfold rd_T29; simp [List.getD_eq_getElem?_getD, List.getElem?_zipIdx, List.getElem?_eq_getElem hlt]
  rw [hz] at hM
  obtain ⟨v, rfl, hG⟩ := kG_openM (show kG.M W b (fun k => (ok k ∧ some k ≠ (Value.slice (some ad) kids.length c).ownBlock) ∧ f k = i.toNat) (rd_T29 kids i) c' from hM)
  have hG2 : Kd.S kG 29 W b (fun k => (ok k ∧ some k ≠ (Value.slice (some ad) kids.length c).ownBlock) ∧ f k = i.toNat ∧ k < W.heap.size) v (rd_T29 kids i).f2 := Kd.S_mono (Kd.S_bound hG) (fun k hk => ⟨hk.1.1, hk.1.2, hk.2.2.1⟩)
  obtain ⟨A2, c2, rfl⟩ := Kd.S_slice hG2
  exact ⟨ad, A2, c2, rfl, hcc 0 _ rfl, by rw [← add_field _ _ 1 (by omega)]; exact hcc 1 _ rfl, by rw [← add_field _ _ 2 (by omega)]; exact hcc 2 _ rfl, hG2⟩
def flatB.l0 (isV : S29 → Bool) : Nat → List S29 → List S29 → Int → Option (List S29)
  | 0, _, _, _ => none
  | k + 1, ks, out, i => if i < (ks.length : Int) then (if 0 ≤ i then (if i < 1048576 then (if ((rd_T29 ks i).f2.length : Int) = 0 then (if out.length < 1048576 then flatB.l0 isV k ks (out ++ [rd_T29 ks i]) (wrap64 (i + 1)) else none) else (if isV (rd_T29 ks i) = true then (if out.length + (rd_T29 ks i).f2.length < 1048576 then flatB.l0 isV k ks (out ++ (rd_T29 ks i).f2) (wrap64 (i + 1)) else none) else (if out.length < 1048576 then flatB.l0 isV k ks (out ++ [rd_T29 ks i]) (wrap64 (i + 1)) else none))) else none) else none) else some out
def flatB.f (isV : S29 → Bool) (k : Nat) (ks : List S29) : Option (List S29) := flatB.l0 isV k ks [] 0
set_option maxHeartbeats 8000000 in
set_option maxRecDepth 100000 in
theorem flatB.calls {isV : S29 → Bool} {gi : Nat} {lb : Array Value} (H : IsHyp isV gi lb) (k : Nat) (A : Option Addr) (n c b : Nat) (ok : Nat → Prop) (kids y : List S29) (w : World) (hS : Kd.S kG 29 w b ok (.slice A n c) kids) (hb : b ≤ w.heap.size) (h : flatB.f isV k kids = some y) :
    Calls Try.prog 71 #[.slice A n c, .func (.func gi) #[] lb] w fun e w' => ∃ v, e = .returned v ∧ Kd.S kG 29 w' b (fun k => ok k ∨ w.heap.size ≤ k) v y ∧ Below w.heap.size w w' := by
  have ei := H.ei
  have hu29 := Try.underlying29
  have hn := (Kd.S_reads' hS).1
  subst hn
  obtain ⟨f, hF⟩ := tidy_open hS
  have HF := Aside0.mk hF
  have Hb := Aside0.mk hb
  have HB := Aside0.mk (Below.refl w.heap.size w)
  have A1 := Aside0.mk (show flatB.l0 isV k kids [] 0 = some y from h)
  clear hS hF hb h
  go_enter Try.func71, Try.ntmps71
  go_wp2_with (first | ((with_reducible refine gate_dst (N := 8) rfl ?_); refine Kd.S_lit kG _ 29 ?hg (N := 8) ?hd (xs := ([] : List S29)) (inner := []) (ok := (fun k_ => ((ok k_ ∧ some k_ ≠ (Value.slice A kids.length c).ownBlock) ∧ f k_ < (0 : Int).toNat) ∨ w.heap.size ≤ k_)) (okp := fun k_ => w.heap.size ≤ k_) ?hr ?hp (fun _ hk => .inr hk) (.inr (below_size (by repeat (first | (with_reducible first | exact HB.out | apply below_alloc | apply pw_below_drewN | apply below_drew1) | exact HB.out)))) (Below.refl _ _) (Nat.le_refl _) (by simp) ?_; (case hd => rfl); (case hg => rfl); (case hr => first | (go_simp; done) | (go_simp; rfl)); (case hp => exact (Reps.none _ _)); intro v8 w4 ho3 hb hg_ hnew_; clear hg_ hnew_; have HO := Aside0.mk (Kd.S_lower (base' := b) ho3 (Nat.le_trans Hb.out (below_size (by repeat (first | (with_reducible first | exact HB.out | apply below_alloc | apply pw_below_drewN | apply below_drew1) | exact HB.out))))); have HOW := Aside0.mk (fun k_ (hk_ : v8.ownBlock = some k_) => Nat.le_trans (below_size (by repeat (first | (with_reducible first | exact HB.out | apply below_alloc | apply pw_below_drewN | apply below_drew1) | exact HB.out))) (Kd.S_base ho3 k_ hk_)); have n0_ := Aside0.mk (below_step (by repeat (first | (with_reducible first | exact HB.out | apply below_alloc | apply pw_below_drewN | apply below_drew1) | exact HB.out)) hb); clear HB hb ho3; have HB := n0_; clear n0_))
  go_loopg [5, 11] k (fun kq v5 v11 w' => ∃ (i : Int) (out : List S29), v11 = .int .i64 i ∧ Aside0 (flatB.l0 isV kq kids out i = some y) ∧ Aside0 (kq ≤ k) ∧ Aside0 (Kd.S kG 29 w' b (fun k_ => ((ok k_ ∧ some k_ ≠ (Value.slice A kids.length c).ownBlock) ∧ f k_ < i.toNat) ∨ w.heap.size ≤ k_) v5 out) ∧ Aside0 (∀ k_, v5.ownBlock = some k_ → w.heap.size ≤ k_) ∧ Aside0 (Below w.heap.size w w'))
  case atStart => exact ⟨0, [], rfl, A1, ⟨Nat.le_refl _⟩, ⟨(by (with_reducible repeat (first | apply Kd.S_alloc | apply Kd.S_drewN | apply Kd.S_drew)); exact HO.out)⟩, HOW, ⟨(by repeat (first | (with_reducible first | exact HB.out | apply below_alloc | apply pw_below_drewN | apply below_drew1) | exact HB.out))⟩⟩
  case round =>
    clear A1 HO HB HOW
    obtain ⟨i, out, rfl, HA, HK1, HO, HOW, HB⟩ := hrel
    have HXr := Aside0.mk (Below.refl wr.heap.size wr)
    cases gk with
    | zero => exact absurd HA.out (by simp [flatB.l0])
    | succ k1 =>
      have H' := HA.out
      clear HA
      simp only [flatB.l0] at H'
      by_cases c6 : i < (kids.length : Int)
      · rw [if_pos c6] at H'
        by_cases c7 : 0 ≤ i
        case neg => rw [if_neg c7] at H'; exact absurd H' (by simp)
        rw [if_pos c7] at H'
        by_cases c8 : i < 1048576
        case neg => rw [if_neg c8] at H'; exact absurd H' (by simp)
        rw [if_pos c8] at H'
        obtain ⟨ad, A2, c2, e3, hx0, hx1, hx2, hE⟩ := HF.out i c6 c7
        cases e3
        have HE := Aside0.mk hE
        clear hE
        replace hx0 := (HB.out.cell (World.block_lt_of_cell? w _ hx0)).trans hx0
        replace hx1 := (HB.out.cell (World.block_lt_of_cell? w _ hx1)).trans hx1
        replace hx2 := (HB.out.cell (World.block_lt_of_cell? w _ hx2)).trans hx2
        by_cases c9 : ((rd_T29 kids i).f2.length : Int) = 0
        · rw [if_pos c9] at H'
          by_cases c10 : out.length < 1048576
          case neg => rw [if_neg c10] at H'; exact absurd H' (by simp)
          rw [if_pos c10] at H'
          have LM := Aside0.mk c10
          have HFl := Aside0.mk H'
          clear H' c10
          have AL : Aside0 (impl_Gate_isLeaf.f (rd_T29 kids i).f0 (rd_T29 kids i).f1 (rd_T29 kids i).f2 = some true) := ⟨by unfold impl_Gate_isLeaf.f; rw [c9]; rfl⟩
          clear c9
          have c6b0 : decide (i < (kids.length : Int)) = true := decide_eq_true c6
          have c7b0 : decide (0 ≤ i) = true := decide_eq_true c7
          have C7 := Aside0.mk c7
          have C8 := Aside0.mk c8
          replace c7 := eq_true c7
          replace c6 := eq_true c6
          clear c8
          go_wp2_with (first | ((with_reducible refine gate_dst (N := 7) rfl ?_); refine box_event ?hg (N := 7) ?hd (cs := #[.int .i64 0, .int .i64 0, .slice none 0 0]) (t := 29) ?hr ?_; (case hd => rfl); (case hg => rfl); (case hr => first | (go_simp; done) | (go_simp; rfl)); intro gz hg w5 hbox hb; have n0_ := Aside0.mk (below_step (by repeat (first | (with_reducible first | exact HXr.out | apply below_alloc | apply pw_below_drewN | apply below_drew1) | exact HXr.out)) hb); have GW_gz := Aside0.mk ((by rw [hg]; exact below_size (by repeat (first | (with_reducible first | exact HXr.out | apply below_alloc | apply pw_below_drewN | apply below_drew1) | exact HXr.out))) : wr.heap.size ≤ gz); clear HXr; have HXr := n0_; clear n0_; have BK_gz := Aside0.mk hbox; clear hbox hb hg; have hz_gz0 : w5.cell? ⟨gz, 0, none⟩ = some (.int .i64 0) := (blk_cell BK_gz.out 0).trans rfl; have hz_gzf0 := blk_frozen BK_gz.out 0; have hz_gz1 : w5.cell? ⟨gz, 1, none⟩ = some (.int .i64 0) := (blk_cell BK_gz.out 1).trans rfl; have hz_gzf1 := blk_frozen BK_gz.out 1; have hz_gz2 : w5.cell? ⟨gz, 2, none⟩ = some (.slice none 0 0) := (blk_cell BK_gz.out 2).trans rfl; have hz_gzf2 := blk_frozen BK_gz.out 2) | (go_at_call 86; (with_reducible refine (impl_Gate_isLeaf.calls (rd_T29 kids i).f0 (rd_T29 kids i).f1 _ _ (rd_T29 kids i).f2 true _ ?side1 ?side2 AL.out).mono ?_); (case side1 => exact kG_C (Kd.S_reads' (Kd.S_below HE.out (below_step HB.out (show Below wr.heap.size wr _ from (by repeat (first | (with_reducible first | exact HXr.out | apply below_alloc | apply pw_below_drewN | apply below_drew1 | refine below_set ?_ GW_gz.out) | exact HXr.out)))))).2.2); (case side2 => exact (Kd.S_reads' HE.out).2.1); rintro e w6 ⟨rfl, hb⟩; have n0_ := Aside0.mk (below_step (show Below wr.heap.size wr _ from (by repeat (first | (with_reducible first | exact HXr.out | apply below_alloc | apply pw_below_drewN | apply below_drew1 | refine below_set ?_ GW_gz.out) | exact HXr.out))) hb); have n1_ := Aside0.mk (blk_below (g := gz) (o := .cells #[.int .i64 (rd_T29 kids i).f0, .int .i64 (rd_T29 kids i).f1, .slice A2 (rd_T29 kids i).f2.length c2] 29 (0, 0)) (by (with_reducible repeat (first | refine blk_drewN ?_ _ | refine blk_drew ?_ | refine blk_alloc ?_ _)); refine blk_put (cs := #[.int .i64 (rd_T29 kids i).f0, .int .i64 (rd_T29 kids i).f1, .slice none 0 0]) ?_ 2 _ rfl; (with_reducible repeat (first | refine blk_drewN ?_ _ | refine blk_drew ?_ | refine blk_alloc ?_ _)); refine blk_put (cs := #[.int .i64 (rd_T29 kids i).f0, .int .i64 0, .slice none 0 0]) ?_ 1 _ rfl; (with_reducible repeat (first | refine blk_drewN ?_ _ | refine blk_drew ?_ | refine blk_alloc ?_ _)); refine blk_put (cs := #[.int .i64 0, .int .i64 0, .slice none 0 0]) ?_ 0 _ rfl; (with_reducible repeat (first | refine blk_drewN ?_ _ | refine blk_drew ?_ | refine blk_alloc ?_ _)); exact BK_gz.out) hb); clear HXr BK_gz hz_gz0 hz_gzf0 hz_gz1 hz_gzf1 hz_gz2 hz_gzf2 hb; have HXr := n0_; have BK_gz := n1_; clear n0_ n1_; have hz_gz0 : w6.cell? ⟨gz, 0, none⟩ = some (.int .i64 (rd_T29 kids i).f0) := (blk_cell BK_gz.out 0).trans rfl; have hz_gzf0 := blk_frozen BK_gz.out 0; have hz_gz1 : w6.cell? ⟨gz, 1, none⟩ = some (.int .i64 (rd_T29 kids i).f1) := (blk_cell BK_gz.out 1).trans rfl; have hz_gzf1 := blk_frozen BK_gz.out 1; have hz_gz2 : w6.cell? ⟨gz, 2, none⟩ = some (.slice A2 (rd_T29 kids i).f2.length c2) := (blk_cell BK_gz.out 2).trans rfl; have hz_gzf2 := blk_frozen BK_gz.out 2) | ((with_reducible refine gate_builtin (b := .append) (xs := #[.tmp 27, .tmp 29]) rfl ?_); at_builtin; refine Kd.S_append kG (w0 := w6) b rfl (.tmp 27) (.tmp 29) 27 29 (.agg #[.int .i64 0, .int .i64 0, .slice none 0 0]) 40 rfl Try.underlying27 info29 rfl (by decide) (by omega) u5 out (rd_T29 kids i) [.int .i64 (rd_T29 kids i).f0, .int .i64 (rd_T29 kids i).f1, .slice A2 (rd_T29 kids i).f2.length c2] (fun k_ => ((ok k_ ∧ some k_ ≠ (Value.slice (some ad) kids.length c).ownBlock) ∧ f k_ ≤ i.toNat) ∨ w.heap.size ≤ k_) (fun k_ => (ok k_ ∧ some k_ ≠ (Value.slice (some ad) kids.length c).ownBlock) ∧ f k_ = i.toNat ∧ k_ < w.heap.size) rfl rfl ?aP ?aK ?aF ?aO ?aB ?aS ?aL ?_; (case aP => exact kG_mkM (x := (rd_T29 kids i)) (Kd.S_below HE.out (below_step HB.out (show Below wr.heap.size wr _ from (by repeat (first | (with_reducible first | exact HXr.out | apply below_alloc | apply pw_below_drewN | apply below_drew1) | exact HXr.out)))))); (case aK => exact fun k_ hk_ => ⟨.inl ⟨hk_.1, Nat.le_of_eq hk_.2.1⟩, fun e_ => by have h1_ := HOW.out k_ e_.symm; have h2_ := hk_.2.2; omega⟩); (case aF => exact fun k_ hk_ => .inr (Nat.le_trans (below_size (below_step HB.out (show Below wr.heap.size wr _ from (by repeat (first | (with_reducible first | exact HXr.out | apply below_alloc | apply pw_below_drewN | apply below_drew1) | exact HXr.out))))) hk_)); (case aO => exact Kd.S_mono (Kd.S_below HO.out (show Below wr.heap.size wr _ from (by repeat (first | (with_reducible first | exact HXr.out | apply below_alloc | apply pw_below_drewN | apply below_drew1) | exact HXr.out)))) (fun k_ hk_ => ⟨hk_.elim (fun h_ => .inl ⟨h_.1, Nat.le_of_lt h_.2⟩) .inr, fun h2_ => hk_.elim (fun h_ => by have h3_ := h_.2; have h4_ := h2_.2.1; omega) (fun h_ => by have h4_ := h2_.2.2; omega)⟩)); (case aB => exact Below.refl _ _); (case aS => exact Nat.le_trans Hb.out (below_size (below_step HB.out (show Below wr.heap.size wr _ from (by repeat (first | (with_reducible first | exact HXr.out | apply below_alloc | apply pw_below_drewN | apply below_drew1) | exact HXr.out)))))); (case aL => have := LM.out; omega); intro v7b w8 ho hb hg hat; have HO8 := Aside0.mk ho; have HB8 := Aside0.mk ((below_step HB.out (show Below wr.heap.size wr _ from (by repeat (first | (with_reducible first | exact HXr.out | apply below_alloc | apply pw_below_drewN | apply below_drew1) | exact HXr.out)))).grown hg (below_size (below_step HB.out (show Below wr.heap.size wr _ from (by repeat (first | (with_reducible first | exact HXr.out | apply below_alloc | apply pw_below_drewN | apply below_drew1) | exact HXr.out))))) HOW.out); have HW8 : Aside0 (∀ k_, v7b.ownBlock = some k_ → w.heap.size ≤ k_) := ⟨fun k_ hk_ => hat.elim (fun h_ => HOW.out k_ (h_ ▸ hk_)) (fun ⟨b_, h1_, h2_⟩ => by rw [h1_] at hk_; injection hk_ with hk_; have := below_size (below_step HB.out (show Below wr.heap.size wr _ from (by repeat (first | (with_reducible first | exact HXr.out | apply below_alloc | apply pw_below_drewN | apply below_drew1) | exact HXr.out)))); omega)⟩; clear hb hg hat ho HO HOW HB HXr BK_gz hz_gz0 hz_gzf0 hz_gz1 hz_gzf1 hz_gz2 hz_gzf2))
          go_roundg k1
          case measure => have := HK1.out; omega
          case rel => exact ⟨_, out ++ [(rd_T29 kids i)], rfl, HFl, ⟨by have := HK1.out; omega⟩, ⟨Kd.S_mono HO8.out (fun k_ hk_ => Or.imp (fun h_ => ⟨h_.1, by have h2_ := h_.2; have := C7.out; have := C8.out; rw [show wrap64 (i + 1) = i + 1 by unfold wrap64; omega]; omega⟩) id hk_)⟩, HW8, HB8⟩
        · rw [if_neg c9] at H'
          have AL : Aside0 (impl_Gate_isLeaf.f (rd_T29 kids i).f0 (rd_T29 kids i).f1 (rd_T29 kids i).f2 = some false) := ⟨by unfold impl_Gate_isLeaf.f; rw [beq_eq_false_iff_ne.mpr c9]⟩
          obtain ⟨gE, cE, eE, _⟩ := Kd.S_form HE.out (by omega)
          have eA : A2 = some ⟨gE, 0, none⟩ := by injection eE
          subst eA
          clear eE c9
          by_cases c11 : isV (rd_T29 kids i) = true
          · rw [if_pos c11] at H'
            have AV := Aside0.mk c11
            clear c11
            by_cases c10 : out.length + (rd_T29 kids i).f2.length < 1048576
            case neg => rw [if_neg c10] at H'; exact absurd H' (by simp)
            rw [if_pos c10] at H'
            have LM := Aside0.mk c10
            have HFl := Aside0.mk H'
            clear H' c10
            have c6b0 : decide (i < (kids.length : Int)) = true := decide_eq_true c6
            have c7b0 : decide (0 ≤ i) = true := decide_eq_true c7
            have C7 := Aside0.mk c7
            have C8 := Aside0.mk c8
            replace c7 := eq_true c7
            replace c6 := eq_true c6
            clear c8
            go_wp2_with (first | ((with_reducible refine gate_dst (N := 7) rfl ?_); refine box_event ?hg (N := 7) ?hd (cs := #[.int .i64 0, .int .i64 0, .slice none 0 0]) (t := 29) ?hr ?_; (case hd => rfl); (case hg => rfl); (case hr => first | (go_simp; done) | (go_simp; rfl)); intro gz hg w5 hbox hb; have n0_ := Aside0.mk (below_step (by repeat (first | (with_reducible first | exact HXr.out | apply below_alloc | apply pw_below_drewN | apply below_drew1) | exact HXr.out)) hb); have GW_gz := Aside0.mk ((by rw [hg]; exact below_size (by repeat (first | (with_reducible first | exact HXr.out | apply below_alloc | apply pw_below_drewN | apply below_drew1) | exact HXr.out))) : wr.heap.size ≤ gz); clear HXr; have HXr := n0_; clear n0_; have BK_gz := Aside0.mk hbox; clear hbox hb hg; have hz_gz0 : w5.cell? ⟨gz, 0, none⟩ = some (.int .i64 0) := (blk_cell BK_gz.out 0).trans rfl; have hz_gzf0 := blk_frozen BK_gz.out 0; have hz_gz1 : w5.cell? ⟨gz, 1, none⟩ = some (.int .i64 0) := (blk_cell BK_gz.out 1).trans rfl; have hz_gzf1 := blk_frozen BK_gz.out 1; have hz_gz2 : w5.cell? ⟨gz, 2, none⟩ = some (.slice none 0 0) := (blk_cell BK_gz.out 2).trans rfl; have hz_gzf2 := blk_frozen BK_gz.out 2) | (go_at_call 86; (with_reducible refine (impl_Gate_isLeaf.calls (rd_T29 kids i).f0 (rd_T29 kids i).f1 _ _ (rd_T29 kids i).f2 false _ ?side1 ?side2 AL.out).mono ?_); (case side1 => exact kG_C (Kd.S_reads' (Kd.S_below HE.out (below_step HB.out (show Below wr.heap.size wr _ from (by repeat (first | (with_reducible first | exact HXr.out | apply below_alloc | apply pw_below_drewN | apply below_drew1 | refine below_set ?_ GW_gz.out) | exact HXr.out)))))).2.2); (case side2 => exact (Kd.S_reads' HE.out).2.1); rintro e w6 ⟨rfl, hb⟩; have n0_ := Aside0.mk (below_step (show Below wr.heap.size wr _ from (by repeat (first | (with_reducible first | exact HXr.out | apply below_alloc | apply pw_below_drewN | apply below_drew1 | refine below_set ?_ GW_gz.out) | exact HXr.out))) hb); have n1_ := Aside0.mk (blk_below (g := gz) (o := .cells #[.int .i64 (rd_T29 kids i).f0, .int .i64 (rd_T29 kids i).f1, .slice (some ⟨gE, 0, none⟩) (rd_T29 kids i).f2.length c2] 29 (0, 0)) (by (with_reducible repeat (first | refine blk_drewN ?_ _ | refine blk_drew ?_ | refine blk_alloc ?_ _)); refine blk_put (cs := #[.int .i64 (rd_T29 kids i).f0, .int .i64 (rd_T29 kids i).f1, .slice none 0 0]) ?_ 2 _ rfl; (with_reducible repeat (first | refine blk_drewN ?_ _ | refine blk_drew ?_ | refine blk_alloc ?_ _)); refine blk_put (cs := #[.int .i64 (rd_T29 kids i).f0, .int .i64 0, .slice none 0 0]) ?_ 1 _ rfl; (with_reducible repeat (first | refine blk_drewN ?_ _ | refine blk_drew ?_ | refine blk_alloc ?_ _)); refine blk_put (cs := #[.int .i64 0, .int .i64 0, .slice none 0 0]) ?_ 0 _ rfl; (with_reducible repeat (first | refine blk_drewN ?_ _ | refine blk_drew ?_ | refine blk_alloc ?_ _)); exact BK_gz.out) hb); clear HXr BK_gz hz_gz0 hz_gzf0 hz_gz1 hz_gzf1 hz_gz2 hz_gzf2 hb; have HXr := n0_; have BK_gz := n1_; clear n0_ n1_; have hz_gz0 : w6.cell? ⟨gz, 0, none⟩ = some (.int .i64 (rd_T29 kids i).f0) := (blk_cell BK_gz.out 0).trans rfl; have hz_gzf0 := blk_frozen BK_gz.out 0; have hz_gz1 : w6.cell? ⟨gz, 1, none⟩ = some (.int .i64 (rd_T29 kids i).f1) := (blk_cell BK_gz.out 1).trans rfl; have hz_gzf1 := blk_frozen BK_gz.out 1; have hz_gz2 : w6.cell? ⟨gz, 2, none⟩ = some (.slice (some ⟨gE, 0, none⟩) (rd_T29 kids i).f2.length c2) := (blk_cell BK_gz.out 2).trans rfl; have hz_gzf2 := blk_frozen BK_gz.out 2) | (go_at_fn gi; refine (H.is_ (rd_T29 kids i) (some ⟨gE, 0, none⟩) c2 _ true AV.out).mono ?_; rintro e w7 ⟨rfl, hb⟩; have n0_ := Aside0.mk (below_step (show Below wr.heap.size wr _ from (by repeat (first | (with_reducible first | exact HXr.out | apply below_alloc | apply pw_below_drewN | apply below_drew1 | refine below_set ?_ GW_gz.out) | exact HXr.out))) hb); have n1_ := Aside0.mk (blk_below (g := gz) (o := .cells #[.int .i64 (rd_T29 kids i).f0, .int .i64 (rd_T29 kids i).f1, .slice (some ⟨gE, 0, none⟩) (rd_T29 kids i).f2.length c2] 29 (0, 0)) (by (with_reducible repeat (first | refine blk_drewN ?_ _ | refine blk_drew ?_ | refine blk_alloc ?_ _)); exact BK_gz.out) hb); clear HXr BK_gz hz_gz0 hz_gzf0 hz_gz1 hz_gzf1 hz_gz2 hz_gzf2 hb; have HXr := n0_; have BK_gz := n1_; clear n0_ n1_; have hz_gz0 : w7.cell? ⟨gz, 0, none⟩ = some (.int .i64 (rd_T29 kids i).f0) := (blk_cell BK_gz.out 0).trans rfl; have hz_gzf0 := blk_frozen BK_gz.out 0; have hz_gz1 : w7.cell? ⟨gz, 1, none⟩ = some (.int .i64 (rd_T29 kids i).f1) := (blk_cell BK_gz.out 1).trans rfl; have hz_gzf1 := blk_frozen BK_gz.out 1; have hz_gz2 : w7.cell? ⟨gz, 2, none⟩ = some (.slice (some ⟨gE, 0, none⟩) (rd_T29 kids i).f2.length c2) := (blk_cell BK_gz.out 2).trans rfl; have hz_gzf2 := blk_frozen BK_gz.out 2) | ((with_reducible refine gate_builtin (b := .append) (xs := #[.tmp 23, .tmp 25]) rfl ?_); at_builtin; refine appRowS kG (w0 := w7) b rfl (.tmp 23) (.tmp 25) 27 29 (.agg #[.int .i64 0, .int .i64 0, .slice none 0 0]) 40 rfl Try.underlying27 info29 rfl (by decide) (by omega) u5 out (rd_T29 kids i).f2 ⟨gE, 0, none⟩ _ c2 (fun k_ => ((ok k_ ∧ some k_ ≠ (Value.slice (some ad) kids.length c).ownBlock) ∧ f k_ ≤ i.toNat) ∨ w.heap.size ≤ k_) (fun k_ => (ok k_ ∧ some k_ ≠ (Value.slice (some ad) kids.length c).ownBlock) ∧ f k_ = i.toNat ∧ k_ < w.heap.size) rfl rfl ?aP ?aK ?aF ?aO ?aB ?aS ?aL ?_; (case aP => exact Kd.S_below HE.out (below_step HB.out (show Below wr.heap.size wr _ from (by repeat (first | (with_reducible first | exact HXr.out | apply below_alloc | apply pw_below_drewN | apply below_drew1) | exact HXr.out))))); (case aK => exact fun k_ hk_ => ⟨.inl ⟨hk_.1, Nat.le_of_eq hk_.2.1⟩, fun e_ => by have h1_ := HOW.out k_ e_.symm; have h2_ := hk_.2.2; omega⟩); (case aF => exact fun k_ hk_ => .inr (Nat.le_trans (below_size (below_step HB.out (show Below wr.heap.size wr _ from (by repeat (first | (with_reducible first | exact HXr.out | apply below_alloc | apply pw_below_drewN | apply below_drew1) | exact HXr.out))))) hk_)); (case aO => exact Kd.S_mono (Kd.S_below HO.out (show Below wr.heap.size wr _ from (by repeat (first | (with_reducible first | exact HXr.out | apply below_alloc | apply pw_below_drewN | apply below_drew1) | exact HXr.out)))) (fun k_ hk_ => ⟨hk_.elim (fun h_ => .inl ⟨h_.1, Nat.le_of_lt h_.2⟩) .inr, fun h2_ => hk_.elim (fun h_ => by have h3_ := h_.2; have h4_ := h2_.2.1; omega) (fun h_ => by have h4_ := h2_.2.2; omega)⟩)); (case aB => exact Below.refl _ _); (case aS => exact Nat.le_trans Hb.out (below_size (below_step HB.out (show Below wr.heap.size wr _ from (by repeat (first | (with_reducible first | exact HXr.out | apply below_alloc | apply pw_below_drewN | apply below_drew1) | exact HXr.out)))))); (case aL => have := LM.out; omega); intro v7b w8 ho hb hg hat; have HO8 := Aside0.mk ho; have HB8 := Aside0.mk ((below_step HB.out (show Below wr.heap.size wr _ from (by repeat (first | (with_reducible first | exact HXr.out | apply below_alloc | apply pw_below_drewN | apply below_drew1) | exact HXr.out)))).grown hg (below_size (below_step HB.out (show Below wr.heap.size wr _ from (by repeat (first | (with_reducible first | exact HXr.out | apply below_alloc | apply pw_below_drewN | apply below_drew1) | exact HXr.out))))) HOW.out); have HW8 : Aside0 (∀ k_, v7b.ownBlock = some k_ → w.heap.size ≤ k_) := ⟨fun k_ hk_ => hat.elim (fun h_ => HOW.out k_ (h_ ▸ hk_)) (fun ⟨b_, h1_, h2_⟩ => by rw [h1_] at hk_; injection hk_ with hk_; have := below_size (below_step HB.out (show Below wr.heap.size wr _ from (by repeat (first | (with_reducible first | exact HXr.out | apply below_alloc | apply pw_below_drewN | apply below_drew1) | exact HXr.out)))); omega)⟩; clear hb hg hat ho HO HOW HB HXr BK_gz hz_gz0 hz_gzf0 hz_gz1 hz_gzf1 hz_gz2 hz_gzf2))
            go_roundg k1
            case measure => have := HK1.out; omega
            case rel => exact ⟨_, out ++ (rd_T29 kids i).f2, rfl, HFl, ⟨by have := HK1.out; omega⟩, ⟨Kd.S_mono HO8.out (fun k_ hk_ => Or.imp (fun h_ => ⟨h_.1, by have h2_ := h_.2; have := C7.out; have := C8.out; rw [show wrap64 (i + 1) = i + 1 by unfold wrap64; omega]; omega⟩) id hk_)⟩, HW8, HB8⟩
          · rw [if_neg c11] at H'
            have AV := Aside0.mk (Bool.eq_false_iff.mpr c11)
            clear c11
            by_cases c10 : out.length < 1048576
            case neg => rw [if_neg c10] at H'; exact absurd H' (by simp)
            rw [if_pos c10] at H'
            have LM := Aside0.mk c10
            have HFl := Aside0.mk H'
            clear H' c10
            have c6b0 : decide (i < (kids.length : Int)) = true := decide_eq_true c6
            have c7b0 : decide (0 ≤ i) = true := decide_eq_true c7
            have C7 := Aside0.mk c7
            have C8 := Aside0.mk c8
            replace c7 := eq_true c7
            replace c6 := eq_true c6
            clear c8
            go_wp2_with (first | ((with_reducible refine gate_dst (N := 7) rfl ?_); refine box_event ?hg (N := 7) ?hd (cs := #[.int .i64 0, .int .i64 0, .slice none 0 0]) (t := 29) ?hr ?_; (case hd => rfl); (case hg => rfl); (case hr => first | (go_simp; done) | (go_simp; rfl)); intro gz hg w5 hbox hb; have n0_ := Aside0.mk (below_step (by repeat (first | (with_reducible first | exact HXr.out | apply below_alloc | apply pw_below_drewN | apply below_drew1) | exact HXr.out)) hb); have GW_gz := Aside0.mk ((by rw [hg]; exact below_size (by repeat (first | (with_reducible first | exact HXr.out | apply below_alloc | apply pw_below_drewN | apply below_drew1) | exact HXr.out))) : wr.heap.size ≤ gz); clear HXr; have HXr := n0_; clear n0_; have BK_gz := Aside0.mk hbox; clear hbox hb hg; have hz_gz0 : w5.cell? ⟨gz, 0, none⟩ = some (.int .i64 0) := (blk_cell BK_gz.out 0).trans rfl; have hz_gzf0 := blk_frozen BK_gz.out 0; have hz_gz1 : w5.cell? ⟨gz, 1, none⟩ = some (.int .i64 0) := (blk_cell BK_gz.out 1).trans rfl; have hz_gzf1 := blk_frozen BK_gz.out 1; have hz_gz2 : w5.cell? ⟨gz, 2, none⟩ = some (.slice none 0 0) := (blk_cell BK_gz.out 2).trans rfl; have hz_gzf2 := blk_frozen BK_gz.out 2) | (go_at_call 86; (with_reducible refine (impl_Gate_isLeaf.calls (rd_T29 kids i).f0 (rd_T29 kids i).f1 _ _ (rd_T29 kids i).f2 false _ ?side1 ?side2 AL.out).mono ?_); (case side1 => exact kG_C (Kd.S_reads' (Kd.S_below HE.out (below_step HB.out (show Below wr.heap.size wr _ from (by repeat (first | (with_reducible first | exact HXr.out | apply below_alloc | apply pw_below_drewN | apply below_drew1 | refine below_set ?_ GW_gz.out) | exact HXr.out)))))).2.2); (case side2 => exact (Kd.S_reads' HE.out).2.1); rintro e w6 ⟨rfl, hb⟩; have n0_ := Aside0.mk (below_step (show Below wr.heap.size wr _ from (by repeat (first | (with_reducible first | exact HXr.out | apply below_alloc | apply pw_below_drewN | apply below_drew1 | refine below_set ?_ GW_gz.out) | exact HXr.out))) hb); have n1_ := Aside0.mk (blk_below (g := gz) (o := .cells #[.int .i64 (rd_T29 kids i).f0, .int .i64 (rd_T29 kids i).f1, .slice (some ⟨gE, 0, none⟩) (rd_T29 kids i).f2.length c2] 29 (0, 0)) (by (with_reducible repeat (first | refine blk_drewN ?_ _ | refine blk_drew ?_ | refine blk_alloc ?_ _)); refine blk_put (cs := #[.int .i64 (rd_T29 kids i).f0, .int .i64 (rd_T29 kids i).f1, .slice none 0 0]) ?_ 2 _ rfl; (with_reducible repeat (first | refine blk_drewN ?_ _ | refine blk_drew ?_ | refine blk_alloc ?_ _)); refine blk_put (cs := #[.int .i64 (rd_T29 kids i).f0, .int .i64 0, .slice none 0 0]) ?_ 1 _ rfl; (with_reducible repeat (first | refine blk_drewN ?_ _ | refine blk_drew ?_ | refine blk_alloc ?_ _)); refine blk_put (cs := #[.int .i64 0, .int .i64 0, .slice none 0 0]) ?_ 0 _ rfl; (with_reducible repeat (first | refine blk_drewN ?_ _ | refine blk_drew ?_ | refine blk_alloc ?_ _)); exact BK_gz.out) hb); clear HXr BK_gz hz_gz0 hz_gzf0 hz_gz1 hz_gzf1 hz_gz2 hz_gzf2 hb; have HXr := n0_; have BK_gz := n1_; clear n0_ n1_; have hz_gz0 : w6.cell? ⟨gz, 0, none⟩ = some (.int .i64 (rd_T29 kids i).f0) := (blk_cell BK_gz.out 0).trans rfl; have hz_gzf0 := blk_frozen BK_gz.out 0; have hz_gz1 : w6.cell? ⟨gz, 1, none⟩ = some (.int .i64 (rd_T29 kids i).f1) := (blk_cell BK_gz.out 1).trans rfl; have hz_gzf1 := blk_frozen BK_gz.out 1; have hz_gz2 : w6.cell? ⟨gz, 2, none⟩ = some (.slice (some ⟨gE, 0, none⟩) (rd_T29 kids i).f2.length c2) := (blk_cell BK_gz.out 2).trans rfl; have hz_gzf2 := blk_frozen BK_gz.out 2) | (go_at_fn gi; refine (H.is_ (rd_T29 kids i) (some ⟨gE, 0, none⟩) c2 _ false AV.out).mono ?_; rintro e w7 ⟨rfl, hb⟩; have n0_ := Aside0.mk (below_step (show Below wr.heap.size wr _ from (by repeat (first | (with_reducible first | exact HXr.out | apply below_alloc | apply pw_below_drewN | apply below_drew1 | refine below_set ?_ GW_gz.out) | exact HXr.out))) hb); have n1_ := Aside0.mk (blk_below (g := gz) (o := .cells #[.int .i64 (rd_T29 kids i).f0, .int .i64 (rd_T29 kids i).f1, .slice (some ⟨gE, 0, none⟩) (rd_T29 kids i).f2.length c2] 29 (0, 0)) (by (with_reducible repeat (first | refine blk_drewN ?_ _ | refine blk_drew ?_ | refine blk_alloc ?_ _)); exact BK_gz.out) hb); clear HXr BK_gz hz_gz0 hz_gzf0 hz_gz1 hz_gzf1 hz_gz2 hz_gzf2 hb; have HXr := n0_; have BK_gz := n1_; clear n0_ n1_; have hz_gz0 : w7.cell? ⟨gz, 0, none⟩ = some (.int .i64 (rd_T29 kids i).f0) := (blk_cell BK_gz.out 0).trans rfl; have hz_gzf0 := blk_frozen BK_gz.out 0; have hz_gz1 : w7.cell? ⟨gz, 1, none⟩ = some (.int .i64 (rd_T29 kids i).f1) := (blk_cell BK_gz.out 1).trans rfl; have hz_gzf1 := blk_frozen BK_gz.out 1; have hz_gz2 : w7.cell? ⟨gz, 2, none⟩ = some (.slice (some ⟨gE, 0, none⟩) (rd_T29 kids i).f2.length c2) := (blk_cell BK_gz.out 2).trans rfl; have hz_gzf2 := blk_frozen BK_gz.out 2) | ((with_reducible refine gate_builtin (b := .append) (xs := #[.tmp 27, .tmp 29]) rfl ?_); at_builtin; refine Kd.S_append kG (w0 := w7) b rfl (.tmp 27) (.tmp 29) 27 29 (.agg #[.int .i64 0, .int .i64 0, .slice none 0 0]) 40 rfl Try.underlying27 info29 rfl (by decide) (by omega) u5 out (rd_T29 kids i) [.int .i64 (rd_T29 kids i).f0, .int .i64 (rd_T29 kids i).f1, .slice (some ⟨gE, 0, none⟩) (rd_T29 kids i).f2.length c2] (fun k_ => ((ok k_ ∧ some k_ ≠ (Value.slice (some ad) kids.length c).ownBlock) ∧ f k_ ≤ i.toNat) ∨ w.heap.size ≤ k_) (fun k_ => (ok k_ ∧ some k_ ≠ (Value.slice (some ad) kids.length c).ownBlock) ∧ f k_ = i.toNat ∧ k_ < w.heap.size) rfl rfl ?aP ?aK ?aF ?aO ?aB ?aS ?aL ?_; (case aP => exact kG_mkM (x := (rd_T29 kids i)) (Kd.S_below HE.out (below_step HB.out (show Below wr.heap.size wr _ from (by repeat (first | (with_reducible first | exact HXr.out | apply below_alloc | apply pw_below_drewN | apply below_drew1) | exact HXr.out)))))); (case aK => exact fun k_ hk_ => ⟨.inl ⟨hk_.1, Nat.le_of_eq hk_.2.1⟩, fun e_ => by have h1_ := HOW.out k_ e_.symm; have h2_ := hk_.2.2; omega⟩); (case aF => exact fun k_ hk_ => .inr (Nat.le_trans (below_size (below_step HB.out (show Below wr.heap.size wr _ from (by repeat (first | (with_reducible first | exact HXr.out | apply below_alloc | apply pw_below_drewN | apply below_drew1) | exact HXr.out))))) hk_)); (case aO => exact Kd.S_mono (Kd.S_below HO.out (show Below wr.heap.size wr _ from (by repeat (first | (with_reducible first | exact HXr.out | apply below_alloc | apply pw_below_drewN | apply below_drew1) | exact HXr.out)))) (fun k_ hk_ => ⟨hk_.elim (fun h_ => .inl ⟨h_.1, Nat.le_of_lt h_.2⟩) .inr, fun h2_ => hk_.elim (fun h_ => by have h3_ := h_.2; have h4_ := h2_.2.1; omega) (fun h_ => by have h4_ := h2_.2.2; omega)⟩)); (case aB => exact Below.refl _ _); (case aS => exact Nat.le_trans Hb.out (below_size (below_step HB.out (show Below wr.heap.size wr _ from (by repeat (first | (with_reducible first | exact HXr.out | apply below_alloc | apply pw_below_drewN | apply below_drew1) | exact HXr.out)))))); (case aL => have := LM.out; omega); intro v7b w8 ho hb hg hat; have HO8 := Aside0.mk ho; have HB8 := Aside0.mk ((below_step HB.out (show Below wr.heap.size wr _ from (by repeat (first | (with_reducible first | exact HXr.out | apply below_alloc | apply pw_below_drewN | apply below_drew1) | exact HXr.out)))).grown hg (below_size (below_step HB.out (show Below wr.heap.size wr _ from (by repeat (first | (with_reducible first | exact HXr.out | apply below_alloc | apply pw_below_drewN | apply below_drew1) | exact HXr.out))))) HOW.out); have HW8 : Aside0 (∀ k_, v7b.ownBlock = some k_ → w.heap.size ≤ k_) := ⟨fun k_ hk_ => hat.elim (fun h_ => HOW.out k_ (h_ ▸ hk_)) (fun ⟨b_, h1_, h2_⟩ => by rw [h1_] at hk_; injection hk_ with hk_; have := below_size (below_step HB.out (show Below wr.heap.size wr _ from (by repeat (first | (with_reducible first | exact HXr.out | apply below_alloc | apply pw_below_drewN | apply below_drew1) | exact HXr.out)))); omega)⟩; clear hb hg hat ho HO HOW HB HXr BK_gz hz_gz0 hz_gzf0 hz_gz1 hz_gzf1 hz_gz2 hz_gzf2))
            go_roundg k1
            case measure => have := HK1.out; omega
            case rel => exact ⟨_, out ++ [(rd_T29 kids i)], rfl, HFl, ⟨by have := HK1.out; omega⟩, ⟨Kd.S_mono HO8.out (fun k_ hk_ => Or.imp (fun h_ => ⟨h_.1, by have h2_ := h_.2; have := C7.out; have := C8.out; rw [show wrap64 (i + 1) = i + 1 by unfold wrap64; omega]; omega⟩) id hk_)⟩, HW8, HB8⟩
      · rw [if_neg c6] at H'
        obtain rfl := Option.some.inj H'
        clear H'
        have c6b0 : decide (i < (kids.length : Int)) = false := decide_eq_false c6
        clear c6
        go_wp2
        go_ret
        have HO9 := Aside0.mk (Kd.S_mono HO.out (ok' := fun k_ => ok k_ ∨ w.heap.size ≤ k_) (fun k_ hk_ => hk_.elim (fun h_ => .inl h_.1.1) .inr))
        exact ⟨_, rfl, (by (with_reducible repeat (first | apply Kd.S_alloc | apply Kd.S_drewN | apply Kd.S_drew)); exact HO9.out), (by repeat (first | (with_reducible first | exact HB.out | apply below_alloc | apply pw_below_drewN | apply below_drew1) | exact HB.out))⟩
def tidyF (k : Nat) (least : Int) (kids : List S29) : Option S29 := if (kids.length : Int) = 1 then some (rd_T29 kids 0) else (if least = 1 then ((flatB.f (fun x => x.f1 == 1) k kids).bind fun l => some ⟨-1, 1, l⟩) else (if least = (kids.length : Int) then ((flatB.f (fun x => x.f1 == (x.f2.length : Int)) k kids).bind fun l => some ⟨-1, (l.length : Int), l⟩) else some ⟨-1, least, kids⟩))
set_option maxHeartbeats 8000000 in
set_option maxRecDepth 100000 in
theorem tidyIn.calls (k : Nat) (least : Int) (kids : List S29) (y : S29) (A : Option Addr) (n c b : Nat) (ok : Nat → Prop) (w : World) (h : tidyF k least kids = some y) (hb : b ≤ w.heap.size) (hS : Kd.S kG 29 w b ok (.slice A n c) kids) :
    Calls Try.prog 70 #[.int .i64 least, .slice A n c] w fun e w' => ∃ v, e = .returned (.agg #[.int .i64 y.f0, .int .i64 y.f1, v]) ∧ Kd.S kG 29 w' b (fun k => ok k ∨ w.heap.size ≤ k) v y.f2 ∧ Below w.heap.size w w' := by
  have hu29 := Try.underlying29
  have hn := (Kd.S_reads' hS).1
  subst hn
  have HS := Aside0.mk (Kd.S_mono (Kd.S_bound hS) (ok' := fun k_ => ok k_ ∧ k_ < w.heap.size) (fun k_ hk_ => ⟨hk_.1, hk_.2.2.1⟩))
  have Hb := Aside0.mk hb
  have HB := Aside0.mk (Below.refl w.heap.size w)
  unfold tidyF at h
  clear hb
  by_cases c0 : (kids.length : Int) = 1
  · rw [if_pos c0] at h
    obtain rfl := Option.some.inj h
    obtain ⟨f, hF⟩ := tidy_open hS
    obtain ⟨ad, A2, c2, e3, hx0, hx1, hx2, hE⟩ := hF 0 (by omega) (by omega)
    cases e3
    have ez : ad.add ((0 : Int).toNat * 3) = ad := rfl
    rw [ez] at hx0 hx1 hx2
    clear ez
    have HE := Aside0.mk (Kd.S_mono hE (ok' := fun k_ => ok k_ ∧ k_ < w.heap.size) (fun k_ hk_ => ⟨hk_.1.1, hk_.2.2⟩))
    clear hE hF hS h
    have hq0 := Aside0.mk hx0
    have hq1 := Aside0.mk hx1
    have hq2 := Aside0.mk hx2
    clear hx0 hx1 hx2
    have c0b : ((kids.length : Int) == 1) = true := beq_iff_eq.mpr c0
    replace c0 := Aside0.mk c0
    have c1b : decide ((0 : Int) < (kids.length : Int)) = true := decide_eq_true (by have := c0.out; omega)
    have c1n := eq_true (show 0 < kids.length by have := c0.out; omega)
    go_enter Try.func70, Try.ntmps70
    go_wp2_with (first | ((with_reducible refine gate_dst (N := 4) rfl ?_); refine box_event ?hg (N := 4) ?hd (cs := #[.int .i64 0, .int .i64 0, .slice none 0 0]) (t := 29) ?hr ?_; (case hd => rfl); (case hg => rfl); (case hr => first | (go_simp; done) | (go_simp; rfl)); intro g4 hg w1 hbox hb; have n0_ := Aside0.mk (below_step (by repeat (first | (with_reducible first | exact HB.out | apply below_alloc | apply pw_below_drewN | apply below_drew1) | exact HB.out)) hb); have GW_g4 := Aside0.mk ((by rw [hg]; exact below_size (by repeat (first | (with_reducible first | exact HB.out | apply below_alloc | apply pw_below_drewN | apply below_drew1) | exact HB.out))) : w.heap.size ≤ g4); clear HB ; have HB := n0_; clear n0_; have BK_g4 := Aside0.mk hbox; clear hbox hb hg; have hz_g40 : w1.cell? ⟨g4, 0, none⟩ = some (.int .i64 0) := (blk_cell BK_g4.out 0).trans rfl; have hz_g4f0 := blk_frozen BK_g4.out 0; have hz_g41 : w1.cell? ⟨g4, 1, none⟩ = some (.int .i64 0) := (blk_cell BK_g4.out 1).trans rfl; have hz_g4f1 := blk_frozen BK_g4.out 1; have hz_g42 : w1.cell? ⟨g4, 2, none⟩ = some (.slice none 0 0) := (blk_cell BK_g4.out 2).trans rfl; have hz_g4f2 := blk_frozen BK_g4.out 2; have hx0 := (HB.out.cell (World.block_lt_of_cell? w _ hq0.out)).trans hq0.out; have hx1 := (HB.out.cell (World.block_lt_of_cell? w _ hq1.out)).trans hq1.out; have hx2 := (HB.out.cell (World.block_lt_of_cell? w _ hq2.out)).trans hq2.out))
    refine bodyPost_ret (results_cell_row rfl _ _ g4 29 #[.int .i64 (rd_T29 kids 0).f0, .int .i64 (rd_T29 kids 0).f1, .slice A2 (rd_T29 kids 0).f2.length c2] (0, 0) _ rfl (by (with_reducible repeat (first | refine blk_drewN ?_ _ | refine blk_drew ?_ | refine blk_alloc ?_ _)); refine blk_put (cs := #[.int .i64 (rd_T29 kids 0).f0, .int .i64 (rd_T29 kids 0).f1, .slice none 0 0]) ?_ 2 _ rfl; (with_reducible repeat (first | refine blk_drewN ?_ _ | refine blk_drew ?_ | refine blk_alloc ?_ _)); refine blk_put (cs := #[.int .i64 (rd_T29 kids 0).f0, .int .i64 0, .slice none 0 0]) ?_ 1 _ rfl; (with_reducible repeat (first | refine blk_drewN ?_ _ | refine blk_drew ?_ | refine blk_alloc ?_ _)); refine blk_put (cs := #[.int .i64 0, .int .i64 0, .slice none 0 0]) ?_ 0 _ rfl; (with_reducible repeat (first | refine blk_drewN ?_ _ | refine blk_drew ?_ | refine blk_alloc ?_ _)); exact BK_g4.out) Try.underlying29 rfl (by kernel_rfl)) rfl ?_
    exact ⟨_, rfl, Kd.S_mono (Kd.S_far (p := ⟨g4, 2, none⟩) (Kd.S_far (p := ⟨g4, 1, none⟩) (Kd.S_far (p := ⟨g4, 0, none⟩) (Kd.S_below HE.out (by repeat (first | (with_reducible first | exact HB.out | apply below_alloc | apply pw_below_drewN | apply below_drew1) | exact HB.out))) (fun k_ hk_ => by have h_ := hk_.2; have := GW_g4.out; show k_ ≠ g4; omega) _) (fun k_ hk_ => by have h_ := hk_.2; have := GW_g4.out; show k_ ≠ g4; omega) _) (fun k_ hk_ => by have h_ := hk_.2; have := GW_g4.out; show k_ ≠ g4; omega) _) (fun k_ hk_ => .inl hk_.1), (by repeat (first | (with_reducible first | exact HB.out | apply below_alloc | apply pw_below_drewN | apply below_drew1 | refine below_set ?_ GW_g4.out) | exact HB.out))⟩
  · rw [if_neg c0] at h
    have c0b : ((kids.length : Int) == 1) = false := beq_eq_false_iff_ne.mpr c0
    clear c0
    by_cases c1 : least = 1
    · rw [if_pos c1] at h
      replace h := Option.bind_eq_some_iff.mp h
      obtain ⟨l, Al, h⟩ := h
      obtain rfl := Option.some.inj h
      have A2 := Aside0.mk Al
      clear Al h hS
      have c1b : ((least : Int) == 1) = true := beq_iff_eq.mpr c1
      clear c1
      go_enter Try.func70, Try.ntmps70
      go_wp2_with (first | ((with_reducible refine gate_dst (N := 4) rfl ?_); refine box_event ?hg (N := 4) ?hd (cs := #[.int .i64 0, .int .i64 0, .slice none 0 0]) (t := 29) ?hr ?_; (case hd => rfl); (case hg => rfl); (case hr => first | (go_simp; done) | (go_simp; rfl)); intro g4 hg w1 hbox hb; have n0_ := Aside0.mk (below_step (by repeat (first | (with_reducible first | exact HB.out | apply below_alloc | apply pw_below_drewN | apply below_drew1) | exact HB.out)) hb); have GW_g4 := Aside0.mk ((by rw [hg]; exact below_size (by repeat (first | (with_reducible first | exact HB.out | apply below_alloc | apply pw_below_drewN | apply below_drew1) | exact HB.out))) : w.heap.size ≤ g4); clear HB ; have HB := n0_; clear n0_; have BK_g4 := Aside0.mk hbox; clear hbox hb hg; have hz_g40 : w1.cell? ⟨g4, 0, none⟩ = some (.int .i64 0) := (blk_cell BK_g4.out 0).trans rfl; have hz_g4f0 := blk_frozen BK_g4.out 0; have hz_g41 : w1.cell? ⟨g4, 1, none⟩ = some (.int .i64 0) := (blk_cell BK_g4.out 1).trans rfl; have hz_g4f1 := blk_frozen BK_g4.out 1; have hz_g42 : w1.cell? ⟨g4, 2, none⟩ = some (.slice none 0 0) := (blk_cell BK_g4.out 2).trans rfl; have hz_g4f2 := blk_frozen BK_g4.out 2) | (go_at_call 71; (refine (flatB.calls tidyOne_hyp k _ _ _ b (fun k_ => ok k_ ∧ k_ < w.heap.size) kids l _ ?sS ?sb A2.out).mono ?_); (case sS => exact Kd.S_below HS.out (by repeat (first | (with_reducible first | exact HB.out | apply below_alloc | apply pw_below_drewN | apply below_drew1) | exact HB.out))); (case sb => exact Nat.le_trans Hb.out (below_size (by repeat (first | (with_reducible first | exact HB.out | apply below_alloc | apply pw_below_drewN | apply below_drew1) | exact HB.out)))); rintro e w5 ⟨v, rfl, hS5, hb⟩; have HL4 : Aside0 (g4 < w5.heap.size) := ⟨Nat.lt_of_lt_of_le (blk_lt (o := .cells #[.int .i64 0, .int .i64 0, .slice none 0 0] 29 (0, 0)) (by (with_reducible repeat (first | refine blk_drewN ?_ _ | refine blk_drew ?_ | refine blk_alloc ?_ _)); exact BK_g4.out)) (below_size hb)⟩; have HS5 := Aside0.mk (Kd.S_mono hS5 (ok' := fun k_ => (ok k_ ∨ w.heap.size ≤ k_) ∧ k_ ≠ g4) (fun k_ hk_ => hk_.elim (fun h_ => ⟨.inl h_.1, by have h2_ := h_.2; have := GW_g4.out; omega⟩) (fun h_ => ⟨.inr (by have := below_size (by repeat (first | (with_reducible first | exact HB.out | apply below_alloc | apply pw_below_drewN | apply below_drew1) | exact HB.out)); omega), by have := blk_lt (o := .cells #[.int .i64 0, .int .i64 0, .slice none 0 0] 29 (0, 0)) (by (with_reducible repeat (first | refine blk_drewN ?_ _ | refine blk_drew ?_ | refine blk_alloc ?_ _)); exact BK_g4.out); omega⟩))); clear hS5; have n0_ := Aside0.mk (below_step (by repeat (first | (with_reducible first | exact HB.out | apply below_alloc | apply pw_below_drewN | apply below_drew1) | exact HB.out)) hb); have n1_ := Aside0.mk (blk_below (g := g4) (o := .cells #[.int .i64 0, .int .i64 0, .slice none 0 0] 29 (0, 0)) (by (with_reducible repeat (first | refine blk_drewN ?_ _ | refine blk_drew ?_ | refine blk_alloc ?_ _)); exact BK_g4.out) hb); clear HB BK_g4 hz_g40 hz_g4f0 hz_g41 hz_g4f1 hz_g42 hz_g4f2; have HB := n0_; have BK_g4 := n1_; clear n0_ n1_; have hz_g40 : w5.cell? ⟨g4, 0, none⟩ = some (.int .i64 0) := (blk_cell BK_g4.out 0).trans rfl; have hz_g4f0 := blk_frozen BK_g4.out 0; have hz_g41 : w5.cell? ⟨g4, 1, none⟩ = some (.int .i64 0) := (blk_cell BK_g4.out 1).trans rfl; have hz_g4f1 := blk_frozen BK_g4.out 1; have hz_g42 : w5.cell? ⟨g4, 2, none⟩ = some (.slice none 0 0) := (blk_cell BK_g4.out 2).trans rfl; have hz_g4f2 := blk_frozen BK_g4.out 2; clear hb; obtain ⟨Av, cv, ev⟩ := Kd.S_slice HS5.out; subst ev) | (go_at_call 56; (with_reducible refine (impl_node.callsT 1 Av l.length cv _).mono ?_); rintro e w6 ⟨rfl, hb⟩; have n2_ := Aside0.mk (Kd.S_below (by (with_reducible repeat (first | apply Kd.S_alloc | apply Kd.S_drewN | apply Kd.S_drew)); exact HS5.out) hb); clear HS5; have HS5 := n2_; clear n2_; have n0_ := Aside0.mk (below_step (by repeat (first | (with_reducible first | exact HB.out | apply below_alloc | apply pw_below_drewN | apply below_drew1) | exact HB.out)) hb); have n1_ := Aside0.mk (blk_below (g := g4) (o := .cells #[.int .i64 0, .int .i64 0, .slice none 0 0] 29 (0, 0)) (by (with_reducible repeat (first | refine blk_drewN ?_ _ | refine blk_drew ?_ | refine blk_alloc ?_ _)); exact BK_g4.out) hb); clear HB BK_g4 hz_g40 hz_g4f0 hz_g41 hz_g4f1 hz_g42 hz_g4f2; have HB := n0_; have BK_g4 := n1_; clear n0_ n1_; have hz_g40 : w6.cell? ⟨g4, 0, none⟩ = some (.int .i64 0) := (blk_cell BK_g4.out 0).trans rfl; have hz_g4f0 := blk_frozen BK_g4.out 0; have hz_g41 : w6.cell? ⟨g4, 1, none⟩ = some (.int .i64 0) := (blk_cell BK_g4.out 1).trans rfl; have hz_g4f1 := blk_frozen BK_g4.out 1; have hz_g42 : w6.cell? ⟨g4, 2, none⟩ = some (.slice none 0 0) := (blk_cell BK_g4.out 2).trans rfl; have hz_g4f2 := blk_frozen BK_g4.out 2; clear hb))
      refine bodyPost_ret (results_cell_row rfl _ _ g4 29 #[.int .i64 (-1), .int .i64 1, .slice Av l.length cv] (0, 0) _ rfl (by (with_reducible repeat (first | refine blk_drewN ?_ _ | refine blk_drew ?_ | refine blk_alloc ?_ _)); refine blk_put (cs := #[.int .i64 (-1), .int .i64 1, .slice none 0 0]) ?_ 2 _ rfl; (with_reducible repeat (first | refine blk_drewN ?_ _ | refine blk_drew ?_ | refine blk_alloc ?_ _)); refine blk_put (cs := #[.int .i64 (-1), .int .i64 0, .slice none 0 0]) ?_ 1 _ rfl; (with_reducible repeat (first | refine blk_drewN ?_ _ | refine blk_drew ?_ | refine blk_alloc ?_ _)); refine blk_put (cs := #[.int .i64 0, .int .i64 0, .slice none 0 0]) ?_ 0 _ rfl; (with_reducible repeat (first | refine blk_drewN ?_ _ | refine blk_drew ?_ | refine blk_alloc ?_ _)); exact BK_g4.out) Try.underlying29 rfl (by kernel_rfl)) rfl ?_
      exact ⟨_, rfl, Kd.S_mono (Kd.S_far (p := ⟨g4, 2, none⟩) (Kd.S_far (p := ⟨g4, 1, none⟩) (Kd.S_far (p := ⟨g4, 0, none⟩) HS5.out (fun k_ hk_ => hk_.2) _) (fun k_ hk_ => hk_.2) _) (fun k_ hk_ => hk_.2) _) (fun k_ hk_ => hk_.1), (by repeat (first | (with_reducible first | exact HB.out | apply below_alloc | apply pw_below_drewN | apply below_drew1 | refine below_set ?_ GW_g4.out) | exact HB.out))⟩
    · rw [if_neg c1] at h
      have c1b : ((least : Int) == 1) = false := beq_eq_false_iff_ne.mpr c1
      clear c1
      by_cases c2 : least = (kids.length : Int)
      · rw [if_pos c2] at h
        replace h := Option.bind_eq_some_iff.mp h
        obtain ⟨l, Al, h⟩ := h
        obtain rfl := Option.some.inj h
        have A2 := Aside0.mk Al
        clear Al h hS
        have c2b : ((least : Int) == (kids.length : Int)) = true := beq_iff_eq.mpr c2
        clear c2
        go_enter Try.func70, Try.ntmps70
        go_wp2_with (first | ((with_reducible refine gate_dst (N := 4) rfl ?_); refine box_event ?hg (N := 4) ?hd (cs := #[.int .i64 0, .int .i64 0, .slice none 0 0]) (t := 29) ?hr ?_; (case hd => rfl); (case hg => rfl); (case hr => first | (go_simp; done) | (go_simp; rfl)); intro g4 hg w1 hbox hb; have n0_ := Aside0.mk (below_step (by repeat (first | (with_reducible first | exact HB.out | apply below_alloc | apply pw_below_drewN | apply below_drew1) | exact HB.out)) hb); have GW_g4 := Aside0.mk ((by rw [hg]; exact below_size (by repeat (first | (with_reducible first | exact HB.out | apply below_alloc | apply pw_below_drewN | apply below_drew1) | exact HB.out))) : w.heap.size ≤ g4); clear HB ; have HB := n0_; clear n0_; have BK_g4 := Aside0.mk hbox; clear hbox hb hg; have hz_g40 : w1.cell? ⟨g4, 0, none⟩ = some (.int .i64 0) := (blk_cell BK_g4.out 0).trans rfl; have hz_g4f0 := blk_frozen BK_g4.out 0; have hz_g41 : w1.cell? ⟨g4, 1, none⟩ = some (.int .i64 0) := (blk_cell BK_g4.out 1).trans rfl; have hz_g4f1 := blk_frozen BK_g4.out 1; have hz_g42 : w1.cell? ⟨g4, 2, none⟩ = some (.slice none 0 0) := (blk_cell BK_g4.out 2).trans rfl; have hz_g4f2 := blk_frozen BK_g4.out 2) | (go_at_call 71; (refine (flatB.calls tidyAll_hyp k _ _ _ b (fun k_ => ok k_ ∧ k_ < w.heap.size) kids l _ ?sS ?sb A2.out).mono ?_); (case sS => exact Kd.S_below HS.out (by repeat (first | (with_reducible first | exact HB.out | apply below_alloc | apply pw_below_drewN | apply below_drew1) | exact HB.out))); (case sb => exact Nat.le_trans Hb.out (below_size (by repeat (first | (with_reducible first | exact HB.out | apply below_alloc | apply pw_below_drewN | apply below_drew1) | exact HB.out)))); rintro e w5 ⟨v, rfl, hS5, hb⟩; have HL4 : Aside0 (g4 < w5.heap.size) := ⟨Nat.lt_of_lt_of_le (blk_lt (o := .cells #[.int .i64 0, .int .i64 0, .slice none 0 0] 29 (0, 0)) (by (with_reducible repeat (first | refine blk_drewN ?_ _ | refine blk_drew ?_ | refine blk_alloc ?_ _)); exact BK_g4.out)) (below_size hb)⟩; have HS5 := Aside0.mk (Kd.S_mono hS5 (ok' := fun k_ => (ok k_ ∨ w.heap.size ≤ k_) ∧ k_ ≠ g4) (fun k_ hk_ => hk_.elim (fun h_ => ⟨.inl h_.1, by have h2_ := h_.2; have := GW_g4.out; omega⟩) (fun h_ => ⟨.inr (by have := below_size (by repeat (first | (with_reducible first | exact HB.out | apply below_alloc | apply pw_below_drewN | apply below_drew1) | exact HB.out)); omega), by have := blk_lt (o := .cells #[.int .i64 0, .int .i64 0, .slice none 0 0] 29 (0, 0)) (by (with_reducible repeat (first | refine blk_drewN ?_ _ | refine blk_drew ?_ | refine blk_alloc ?_ _)); exact BK_g4.out); omega⟩))); clear hS5; have n0_ := Aside0.mk (below_step (by repeat (first | (with_reducible first | exact HB.out | apply below_alloc | apply pw_below_drewN | apply below_drew1) | exact HB.out)) hb); have n1_ := Aside0.mk (blk_below (g := g4) (o := .cells #[.int .i64 0, .int .i64 0, .slice none 0 0] 29 (0, 0)) (by (with_reducible repeat (first | refine blk_drewN ?_ _ | refine blk_drew ?_ | refine blk_alloc ?_ _)); exact BK_g4.out) hb); clear HB BK_g4 hz_g40 hz_g4f0 hz_g41 hz_g4f1 hz_g42 hz_g4f2; have HB := n0_; have BK_g4 := n1_; clear n0_ n1_; have hz_g40 : w5.cell? ⟨g4, 0, none⟩ = some (.int .i64 0) := (blk_cell BK_g4.out 0).trans rfl; have hz_g4f0 := blk_frozen BK_g4.out 0; have hz_g41 : w5.cell? ⟨g4, 1, none⟩ = some (.int .i64 0) := (blk_cell BK_g4.out 1).trans rfl; have hz_g4f1 := blk_frozen BK_g4.out 1; have hz_g42 : w5.cell? ⟨g4, 2, none⟩ = some (.slice none 0 0) := (blk_cell BK_g4.out 2).trans rfl; have hz_g4f2 := blk_frozen BK_g4.out 2; clear hb; obtain ⟨Av, cv, ev⟩ := Kd.S_slice HS5.out; subst ev) | (go_at_call 56; (with_reducible refine (impl_node.callsT (l.length : Int) Av l.length cv _).mono ?_); rintro e w6 ⟨rfl, hb⟩; have n2_ := Aside0.mk (Kd.S_below (by (with_reducible repeat (first | apply Kd.S_alloc | apply Kd.S_drewN | apply Kd.S_drew)); exact HS5.out) hb); clear HS5; have HS5 := n2_; clear n2_; have n0_ := Aside0.mk (below_step (by repeat (first | (with_reducible first | exact HB.out | apply below_alloc | apply pw_below_drewN | apply below_drew1) | exact HB.out)) hb); have n1_ := Aside0.mk (blk_below (g := g4) (o := .cells #[.int .i64 0, .int .i64 0, .slice none 0 0] 29 (0, 0)) (by (with_reducible repeat (first | refine blk_drewN ?_ _ | refine blk_drew ?_ | refine blk_alloc ?_ _)); exact BK_g4.out) hb); clear HB BK_g4 hz_g40 hz_g4f0 hz_g41 hz_g4f1 hz_g42 hz_g4f2; have HB := n0_; have BK_g4 := n1_; clear n0_ n1_; have hz_g40 : w6.cell? ⟨g4, 0, none⟩ = some (.int .i64 0) := (blk_cell BK_g4.out 0).trans rfl; have hz_g4f0 := blk_frozen BK_g4.out 0; have hz_g41 : w6.cell? ⟨g4, 1, none⟩ = some (.int .i64 0) := (blk_cell BK_g4.out 1).trans rfl; have hz_g4f1 := blk_frozen BK_g4.out 1; have hz_g42 : w6.cell? ⟨g4, 2, none⟩ = some (.slice none 0 0) := (blk_cell BK_g4.out 2).trans rfl; have hz_g4f2 := blk_frozen BK_g4.out 2; clear hb))
        refine bodyPost_ret (results_cell_row rfl _ _ g4 29 #[.int .i64 (-1), .int .i64 (l.length : Int), .slice Av l.length cv] (0, 0) _ rfl (by (with_reducible repeat (first | refine blk_drewN ?_ _ | refine blk_drew ?_ | refine blk_alloc ?_ _)); refine blk_put (cs := #[.int .i64 (-1), .int .i64 (l.length : Int), .slice none 0 0]) ?_ 2 _ rfl; (with_reducible repeat (first | refine blk_drewN ?_ _ | refine blk_drew ?_ | refine blk_alloc ?_ _)); refine blk_put (cs := #[.int .i64 (-1), .int .i64 0, .slice none 0 0]) ?_ 1 _ rfl; (with_reducible repeat (first | refine blk_drewN ?_ _ | refine blk_drew ?_ | refine blk_alloc ?_ _)); refine blk_put (cs := #[.int .i64 0, .int .i64 0, .slice none 0 0]) ?_ 0 _ rfl; (with_reducible repeat (first | refine blk_drewN ?_ _ | refine blk_drew ?_ | refine blk_alloc ?_ _)); exact BK_g4.out) Try.underlying29 rfl (by kernel_rfl)) rfl ?_
        exact ⟨_, rfl, Kd.S_mono (Kd.S_far (p := ⟨g4, 2, none⟩) (Kd.S_far (p := ⟨g4, 1, none⟩) (Kd.S_far (p := ⟨g4, 0, none⟩) HS5.out (fun k_ hk_ => hk_.2) _) (fun k_ hk_ => hk_.2) _) (fun k_ hk_ => hk_.2) _) (fun k_ hk_ => hk_.1), (by repeat (first | (with_reducible first | exact HB.out | apply below_alloc | apply pw_below_drewN | apply below_drew1 | refine below_set ?_ GW_g4.out) | exact HB.out))⟩
      · rw [if_neg c2] at h
        obtain rfl := Option.some.inj h
        clear h hS
        have c2b : ((least : Int) == (kids.length : Int)) = false := beq_eq_false_iff_ne.mpr c2
        clear c2
        go_enter Try.func70, Try.ntmps70
        go_wp2_with (first | ((with_reducible refine gate_dst (N := 4) rfl ?_); refine box_event ?hg (N := 4) ?hd (cs := #[.int .i64 0, .int .i64 0, .slice none 0 0]) (t := 29) ?hr ?_; (case hd => rfl); (case hg => rfl); (case hr => first | (go_simp; done) | (go_simp; rfl)); intro g4 hg w1 hbox hb; have n0_ := Aside0.mk (below_step (by repeat (first | (with_reducible first | exact HB.out | apply below_alloc | apply pw_below_drewN | apply below_drew1) | exact HB.out)) hb); have GW_g4 := Aside0.mk ((by rw [hg]; exact below_size (by repeat (first | (with_reducible first | exact HB.out | apply below_alloc | apply pw_below_drewN | apply below_drew1) | exact HB.out))) : w.heap.size ≤ g4); clear HB ; have HB := n0_; clear n0_; have BK_g4 := Aside0.mk hbox; clear hbox hb hg; have hz_g40 : w1.cell? ⟨g4, 0, none⟩ = some (.int .i64 0) := (blk_cell BK_g4.out 0).trans rfl; have hz_g4f0 := blk_frozen BK_g4.out 0; have hz_g41 : w1.cell? ⟨g4, 1, none⟩ = some (.int .i64 0) := (blk_cell BK_g4.out 1).trans rfl; have hz_g4f1 := blk_frozen BK_g4.out 1; have hz_g42 : w1.cell? ⟨g4, 2, none⟩ = some (.slice none 0 0) := (blk_cell BK_g4.out 2).trans rfl; have hz_g4f2 := blk_frozen BK_g4.out 2) | (go_at_call 56; (with_reducible refine (impl_node.callsT least A kids.length c _).mono ?_); rintro e w6 ⟨rfl, hb⟩; have n2_ := Aside0.mk (Kd.S_below (Kd.S_below HS.out (by repeat (first | (with_reducible first | exact HB.out | apply below_alloc | apply pw_below_drewN | apply below_drew1) | exact HB.out))) hb); clear HS; have HS := n2_; clear n2_; have n0_ := Aside0.mk (below_step (by repeat (first | (with_reducible first | exact HB.out | apply below_alloc | apply pw_below_drewN | apply below_drew1) | exact HB.out)) hb); have n1_ := Aside0.mk (blk_below (g := g4) (o := .cells #[.int .i64 0, .int .i64 0, .slice none 0 0] 29 (0, 0)) (by (with_reducible repeat (first | refine blk_drewN ?_ _ | refine blk_drew ?_ | refine blk_alloc ?_ _)); exact BK_g4.out) hb); clear HB BK_g4 hz_g40 hz_g4f0 hz_g41 hz_g4f1 hz_g42 hz_g4f2; have HB := n0_; have BK_g4 := n1_; clear n0_ n1_; have hz_g40 : w6.cell? ⟨g4, 0, none⟩ = some (.int .i64 0) := (blk_cell BK_g4.out 0).trans rfl; have hz_g4f0 := blk_frozen BK_g4.out 0; have hz_g41 : w6.cell? ⟨g4, 1, none⟩ = some (.int .i64 0) := (blk_cell BK_g4.out 1).trans rfl; have hz_g4f1 := blk_frozen BK_g4.out 1; have hz_g42 : w6.cell? ⟨g4, 2, none⟩ = some (.slice none 0 0) := (blk_cell BK_g4.out 2).trans rfl; have hz_g4f2 := blk_frozen BK_g4.out 2; clear hb))
        refine bodyPost_ret (results_cell_row rfl _ _ g4 29 #[.int .i64 (-1), .int .i64 least, .slice A kids.length c] (0, 0) _ rfl (by (with_reducible repeat (first | refine blk_drewN ?_ _ | refine blk_drew ?_ | refine blk_alloc ?_ _)); refine blk_put (cs := #[.int .i64 (-1), .int .i64 least, .slice none 0 0]) ?_ 2 _ rfl; (with_reducible repeat (first | refine blk_drewN ?_ _ | refine blk_drew ?_ | refine blk_alloc ?_ _)); refine blk_put (cs := #[.int .i64 (-1), .int .i64 0, .slice none 0 0]) ?_ 1 _ rfl; (with_reducible repeat (first | refine blk_drewN ?_ _ | refine blk_drew ?_ | refine blk_alloc ?_ _)); refine blk_put (cs := #[.int .i64 0, .int .i64 0, .slice none 0 0]) ?_ 0 _ rfl; (with_reducible repeat (first | refine blk_drewN ?_ _ | refine blk_drew ?_ | refine blk_alloc ?_ _)); exact BK_g4.out) Try.underlying29 rfl (by kernel_rfl)) rfl ?_
        exact ⟨_, rfl, Kd.S_mono (Kd.S_far (p := ⟨g4, 2, none⟩) (Kd.S_far (p := ⟨g4, 1, none⟩) (Kd.S_far (p := ⟨g4, 0, none⟩) HS.out (fun k_ hk_ => by have h_ := hk_.2; have := GW_g4.out; show k_ ≠ g4; omega) _) (fun k_ hk_ => by have h_ := hk_.2; have := GW_g4.out; show k_ ≠ g4; omega) _) (fun k_ hk_ => by have h_ := hk_.2; have := GW_g4.out; show k_ ≠ g4; omega) _) (fun k_ hk_ => .inl hk_.1), (by repeat (first | (with_reducible first | exact HB.out | apply below_alloc | apply pw_below_drewN | apply below_drew1 | refine below_set ?_ GW_g4.out) | exact HB.out))⟩
theorem mapTidy (w0 : World) : MapHyp w0 w0.heap.size (fun _ => False) (fun (_ : Unit) _ => True) leafD tidyF 54 70 #[] #[] where
  n0 := Nat.le_refl _
  so := fun _ h => h.elim
  step := fun _ _ _ _ _ => trivial
  el := enters_of Try.func54 (by kernel_rfl) rfl
  ei := enters_of Try.func70 (by kernel_rfl) rfl
  leaf := fun j s s' h y W e hB _ _ => map_leafD j s s' h y W e hB
  inner := fun j least kids y s A n c b ok W e hB _ hbW _ hS => (tidyIn.calls j least kids y A n c b ok W e hbW hS).mono (fun e w' ⟨v, he, hS', hb'⟩ => ⟨v, he, hS', below_step hB hb', Kept.of_below hb' _, trivial⟩)

end Go.Proofs.Ytjnobnmjhpmpfaa.P

namespace Go.Proofs.Ytjnobnmjhpmpfaa.P
open Go.RowKit Go.Proofs.YtjnobnmjhpmpfaaW.PrintWords Go.Proofs.YtjnobnmjhpmpfaaW.PrintLast Go.Proofs.YtjnobnmjhpmpfaaW.PrintMore
attribute [local go_sem] max2_int min2_int max_two min_two max_three min_three max_four min_four
set_option linter.unusedVariables false
set_option linter.unusedSimpArgs false

/-! ### impl_TidyGate: function 34 (by hand) -/
def impl_TidyGate.f (k : Nat) (a0 : Int) (a1_0 : Int) (a1_1 : Int) (l1_2 : List S29) : Option (Int × Int × List S29 × Int) := (impl_ValidGate.f k a0 a1_0 a1_1 l1_2).bind fun t => (if t = true then ((mapB.f leafD tidyF k () ⟨a1_0, a1_1, l1_2⟩).bind fun y => some (y.1.f0, y.1.f1, y.1.f2, 0)) else (some (0, 0, ([] : List S29), 1)))
set_option maxHeartbeats 8000000 in
set_option maxRecDepth 100000 in
theorem impl_TidyGate.calls (k : Nat) (a0 : Int) (a1_0 : Int) (a1_1 : Int) (A1_2 : Option Addr) (c1_2 : Nat) (l1_2 : List S29) (r1 : Int) (r2 : Int) (r3 : List S29) (r4 : Int) (w : World) (hr1_2 : Kd.C k29 w A1_2 l1_2.length l1_2) (hc1_2 : l1_2.length ≤ c1_2) (h : impl_TidyGate.f k a0 a1_0 a1_1 l1_2 = some (r1, r2, r3, r4)) :
    Calls Try.prog 34 #[.int .i64 a0, .agg #[.int .i64 a1_0, .int .i64 a1_1, .slice A1_2 l1_2.length c1_2]] w fun e w' => ∃ v2_ : Value, e = .returned (.tuple #[.agg #[.int .i64 r1, .int .i64 r2, v2_], .int .i64 r4]) ∧ Kd.S kG 29 w' w.heap.size (fun _ => True) v2_ r3 ∧ Below w.heap.size w w' := by
  have hu29 := Try.underlying29
  have HR := Aside0.mk hr1_2
  have HC := Aside0.mk hc1_2
  clear hr1_2 hc1_2
  have HB := Aside0.mk (Below.refl w.heap.size w)
  unfold impl_TidyGate.f at h
  replace h := Option.bind_eq_some_iff.mp h
  obtain ⟨t, At, H⟩ := h
  have A3 := Aside0.mk At
  clear At
  by_cases c4 : t = true
  · subst c4
    rw [if_pos rfl] at H
    replace H := Option.bind_eq_some_iff.mp H
    obtain ⟨⟨y, ⟨⟩⟩, At, H⟩ := H
    have A4 := Aside0.mk At
    clear At
    simp only [Option.some.injEq, Prod.mk.injEq] at H
    obtain ⟨rfl, rfl, rfl, rfl⟩ := H
    go_enter Try.func34, Try.ntmps34
    go_wp2_with (first | ((with_reducible refine gate_dst (N := 3) rfl ?_); refine box_event ?hg (N := 3) ?hd (cs := #[.int .i64 a1_0, .int .i64 a1_1, .slice A1_2 l1_2.length c1_2]) (t := 29) ?hr ?_; (case hd => rfl); (case hg => rfl); (case hr => first | (go_simp; done) | (go_simp; rfl)); intro g3 hg w1 hbox hb; have n0_ := Aside0.mk (below_step (by repeat (first | (with_reducible first | exact HB.out | apply below_alloc | apply pw_below_drewN | apply below_drew1) | exact HB.out)) hb); have GW_g3 := Aside0.mk ((by rw [hg]; exact below_size (by repeat (first | (with_reducible first | exact HB.out | apply below_alloc | apply pw_below_drewN | apply below_drew1) | exact HB.out))) : w.heap.size ≤ g3); clear HB ; have HB := n0_; clear n0_; have BK_g3 := Aside0.mk hbox; clear hbox hb hg; have hz_g30 : w1.cell? ⟨g3, 0, none⟩ = some (.int .i64 a1_0) := (blk_cell BK_g3.out 0).trans rfl; have hz_g3f0 := blk_frozen BK_g3.out 0; have hz_g31 : w1.cell? ⟨g3, 1, none⟩ = some (.int .i64 a1_1) := (blk_cell BK_g3.out 1).trans rfl; have hz_g3f1 := blk_frozen BK_g3.out 1; have hz_g32 : w1.cell? ⟨g3, 2, none⟩ = some (.slice A1_2 l1_2.length c1_2) := (blk_cell BK_g3.out 2).trans rfl; have hz_g3f2 := blk_frozen BK_g3.out 2) | ((with_reducible refine gate_dst (N := 4) rfl ?_); refine box_event ?hg (N := 4) ?hd (cs := #[.int .i64 0, .int .i64 0, .slice none 0 0]) (t := 29) ?hr ?_; (case hd => rfl); (case hg => rfl); (case hr => first | (go_simp; done) | (go_simp; rfl)); intro g4 hg w2 hbox hb; have n0_ := Aside0.mk (below_step (by repeat (first | (with_reducible first | exact HB.out | apply below_alloc | apply pw_below_drewN | apply below_drew1) | exact HB.out)) hb); have n1_ := Aside0.mk (blk_below (g := g3) (o := .cells #[.int .i64 a1_0, .int .i64 a1_1, .slice A1_2 l1_2.length c1_2] 29 (0, 0)) (by (with_reducible repeat (first | refine blk_drewN ?_ _ | refine blk_drew ?_ | refine blk_alloc ?_ _)); exact BK_g3.out) hb); have GW_g4 := Aside0.mk ((by rw [hg]; exact below_size (by repeat (first | (with_reducible first | exact HB.out | apply below_alloc | apply pw_below_drewN | apply below_drew1) | exact HB.out))) : w.heap.size ≤ g4); clear HB BK_g3; have HB := n0_; clear n0_; (try clear hz_g30 hz_g3f0 hz_g31 hz_g3f1 hz_g32 hz_g3f2); have BK_g3 := n1_; clear n1_; have BK_g4 := Aside0.mk hbox; clear hbox hb hg; have hz_g30 : w2.cell? ⟨g3, 0, none⟩ = some (.int .i64 a1_0) := (blk_cell BK_g3.out 0).trans rfl; have hz_g3f0 := blk_frozen BK_g3.out 0; have hz_g31 : w2.cell? ⟨g3, 1, none⟩ = some (.int .i64 a1_1) := (blk_cell BK_g3.out 1).trans rfl; have hz_g3f1 := blk_frozen BK_g3.out 1; have hz_g32 : w2.cell? ⟨g3, 2, none⟩ = some (.slice A1_2 l1_2.length c1_2) := (blk_cell BK_g3.out 2).trans rfl; have hz_g3f2 := blk_frozen BK_g3.out 2; have hz_g40 : w2.cell? ⟨g4, 0, none⟩ = some (.int .i64 0) := (blk_cell BK_g4.out 0).trans rfl; have hz_g4f0 := blk_frozen BK_g4.out 0; have hz_g41 : w2.cell? ⟨g4, 1, none⟩ = some (.int .i64 0) := (blk_cell BK_g4.out 1).trans rfl; have hz_g4f1 := blk_frozen BK_g4.out 1; have hz_g42 : w2.cell? ⟨g4, 2, none⟩ = some (.slice none 0 0) := (blk_cell BK_g4.out 2).trans rfl; have hz_g4f2 := blk_frozen BK_g4.out 2) | (go_at_call 20; (with_reducible refine (impl_ValidGate.calls k a0 a1_0 a1_1 _ _ l1_2 true _ ?side1 ?side2 A3.out).mono ?_); (case side1 => exact Kd.C_below HR.out (by repeat (first | (with_reducible first | exact HB.out | apply below_alloc | apply pw_below_drewN | apply below_drew1) | exact HB.out))); (case side2 => exact HC.out); rintro e w5 ⟨rfl, hb⟩; have n0_ := Aside0.mk (below_step (by repeat (first | (with_reducible first | exact HB.out | apply below_alloc | apply pw_below_drewN | apply below_drew1) | exact HB.out)) hb); have n1_ := Aside0.mk (blk_below (g := g3) (o := .cells #[.int .i64 a1_0, .int .i64 a1_1, .slice A1_2 l1_2.length c1_2] 29 (0, 0)) (by (with_reducible repeat (first | refine blk_drewN ?_ _ | refine blk_drew ?_ | refine blk_alloc ?_ _)); exact BK_g3.out) hb); have n2_ := Aside0.mk (blk_below (g := g4) (o := .cells #[.int .i64 0, .int .i64 0, .slice none 0 0] 29 (0, 0)) (by (with_reducible repeat (first | refine blk_drewN ?_ _ | refine blk_drew ?_ | refine blk_alloc ?_ _)); exact BK_g4.out) hb); clear HB BK_g3 BK_g4 hz_g30 hz_g3f0 hz_g31 hz_g3f1 hz_g32 hz_g3f2 hz_g40 hz_g4f0 hz_g41 hz_g4f1 hz_g42 hz_g4f2 hb; have HB := n0_; have BK_g3 := n1_; have BK_g4 := n2_; clear n0_ n1_ n2_; have hz_g30 : w5.cell? ⟨g3, 0, none⟩ = some (.int .i64 a1_0) := (blk_cell BK_g3.out 0).trans rfl; have hz_g3f0 := blk_frozen BK_g3.out 0; have hz_g31 : w5.cell? ⟨g3, 1, none⟩ = some (.int .i64 a1_1) := (blk_cell BK_g3.out 1).trans rfl; have hz_g3f1 := blk_frozen BK_g3.out 1; have hz_g32 : w5.cell? ⟨g3, 2, none⟩ = some (.slice A1_2 l1_2.length c1_2) := (blk_cell BK_g3.out 2).trans rfl; have hz_g3f2 := blk_frozen BK_g3.out 2; have hz_g40 : w5.cell? ⟨g4, 0, none⟩ = some (.int .i64 0) := (blk_cell BK_g4.out 0).trans rfl; have hz_g4f0 := blk_frozen BK_g4.out 0; have hz_g41 : w5.cell? ⟨g4, 1, none⟩ = some (.int .i64 0) := (blk_cell BK_g4.out 1).trans rfl; have hz_g4f1 := blk_frozen BK_g4.out 1; have hz_g42 : w5.cell? ⟨g4, 2, none⟩ = some (.slice none 0 0) := (blk_cell BK_g4.out 2).trans rfl; have hz_g4f2 := blk_frozen BK_g4.out 2) | (go_at_call 53; (with_reducible refine (mapB.calls (mapTidy w) k () () ⟨a1_0, a1_1, l1_2⟩ y A1_2 c1_2 _ ?sB ?sN trivial HR.out HC.out A4.out).mono ?_); (case sB => exact (by repeat (first | (with_reducible first | exact HB.out | apply below_alloc | apply pw_below_drewN | apply below_drew1) | exact HB.out))); (case sN => exact below_size (by repeat (first | (with_reducible first | exact HB.out | apply below_alloc | apply pw_below_drewN | apply below_drew1) | exact HB.out))); rintro e w6 ⟨v, rfl, hS, hB6, hk6, _⟩; have HSv := Aside0.mk (Kd.S_lower (base' := w.heap.size) (Kd.S_mono (Kd.S_bound hS) (ok' := fun k_ => g4 < k_) (fun k_ hk_ => by have h1_ := hk_.2.1; have h2_ := blk_lt (o := .cells #[.int .i64 0, .int .i64 0, .slice none 0 0] 29 (0, 0)) (by (with_reducible repeat (first | refine blk_drewN ?_ _ | refine blk_drew ?_ | refine blk_alloc ?_ _)); exact BK_g4.out); exact Nat.lt_of_lt_of_le h2_ h1_)) (below_size (by repeat (first | (with_reducible first | exact HB.out | apply below_alloc | apply pw_below_drewN | apply below_drew1) | exact HB.out)))); obtain ⟨Av, cv, ev⟩ := Kd.S_slice HSv.out; subst ev; have n2_ := Aside0.mk (blk_kept (g := g4) (o := .cells #[.int .i64 0, .int .i64 0, .slice none 0 0] 29 (0, 0)) (by (with_reducible repeat (first | refine blk_drewN ?_ _ | refine blk_drew ?_ | refine blk_alloc ?_ _)); exact BK_g4.out) hk6 (fun h_ => h_.elim)); clear hS BK_g3 BK_g4 hz_g30 hz_g3f0 hz_g31 hz_g3f1 hz_g32 hz_g3f2 hz_g40 hz_g4f0 hz_g41 hz_g4f1 hz_g42 hz_g4f2; have BK_g4 := n2_; clear n2_; have hz_g40 : w6.cell? ⟨g4, 0, none⟩ = some (.int .i64 0) := (blk_cell BK_g4.out 0).trans rfl; have hz_g4f0 := blk_frozen BK_g4.out 0; have hz_g41 : w6.cell? ⟨g4, 1, none⟩ = some (.int .i64 0) := (blk_cell BK_g4.out 1).trans rfl; have hz_g4f1 := blk_frozen BK_g4.out 1; have hz_g42 : w6.cell? ⟨g4, 2, none⟩ = some (.slice none 0 0) := (blk_cell BK_g4.out 2).trans rfl; have hz_g4f2 := blk_frozen BK_g4.out 2; clear HB hk6; have HB := Aside0.mk hB6; clear hB6))
    refine bodyPost_ret (results_ct rfl _ _ g4 29 #[.int .i64 y.f0, .int .i64 y.f1, .slice Av y.f2.length cv] (0, 0) _ rfl (by (with_reducible repeat (first | refine blk_drewN ?_ _ | refine blk_drew ?_ | refine blk_alloc ?_ _)); refine blk_put (cs := #[.int .i64 y.f0, .int .i64 y.f1, .slice none 0 0]) ?_ 2 _ rfl; (with_reducible repeat (first | refine blk_drewN ?_ _ | refine blk_drew ?_ | refine blk_alloc ?_ _)); refine blk_put (cs := #[.int .i64 y.f0, .int .i64 0, .slice none 0 0]) ?_ 1 _ rfl; (with_reducible repeat (first | refine blk_drewN ?_ _ | refine blk_drew ?_ | refine blk_alloc ?_ _)); refine blk_put (cs := #[.int .i64 0, .int .i64 0, .slice none 0 0]) ?_ 0 _ rfl; (with_reducible repeat (first | refine blk_drewN ?_ _ | refine blk_drew ?_ | refine blk_alloc ?_ _)); exact BK_g4.out) Try.underlying29 rfl (by kernel_rfl)) rfl ?_
    exact ⟨_, rfl, Kd.S_mono (Kd.S_far (p := ⟨g4, 2, none⟩) (Kd.S_far (p := ⟨g4, 1, none⟩) (Kd.S_far (p := ⟨g4, 0, none⟩) HSv.out (fun k_ hk_ => by have h_ : g4 < k_ := hk_; show k_ ≠ g4; omega) _) (fun k_ hk_ => by have h_ : g4 < k_ := hk_; show k_ ≠ g4; omega) _) (fun k_ hk_ => by have h_ : g4 < k_ := hk_; show k_ ≠ g4; omega) _) (fun _ _ => trivial), (by repeat (first | (with_reducible first | exact HB.out | apply below_alloc | apply pw_below_drewN | apply below_drew1 | refine below_set ?_ GW_g4.out) | exact HB.out))⟩
  · replace c4 := Bool.eq_false_iff.mpr c4
    subst c4
    rw [if_neg (show ¬ (false = true) by decide)] at H
    simp only [Option.some.injEq, Prod.mk.injEq] at H
    obtain ⟨rfl, rfl, rfl, rfl⟩ := H
    go_enter Try.func34, Try.ntmps34
    go_wp2_with (first | ((with_reducible refine gate_dst (N := 3) rfl ?_); refine box_event ?hg (N := 3) ?hd (cs := #[.int .i64 a1_0, .int .i64 a1_1, .slice A1_2 l1_2.length c1_2]) (t := 29) ?hr ?_; (case hd => rfl); (case hg => rfl); (case hr => first | (go_simp; done) | (go_simp; rfl)); intro g3 hg w1 hbox hb; have n0_ := Aside0.mk (below_step (by repeat (first | (with_reducible first | exact HB.out | apply below_alloc | apply pw_below_drewN | apply below_drew1) | exact HB.out)) hb); have GW_g3 := Aside0.mk ((by rw [hg]; exact below_size (by repeat (first | (with_reducible first | exact HB.out | apply below_alloc | apply pw_below_drewN | apply below_drew1) | exact HB.out))) : w.heap.size ≤ g3); clear HB ; have HB := n0_; clear n0_; have BK_g3 := Aside0.mk hbox; clear hbox hb hg; have hz_g30 : w1.cell? ⟨g3, 0, none⟩ = some (.int .i64 a1_0) := (blk_cell BK_g3.out 0).trans rfl; have hz_g3f0 := blk_frozen BK_g3.out 0; have hz_g31 : w1.cell? ⟨g3, 1, none⟩ = some (.int .i64 a1_1) := (blk_cell BK_g3.out 1).trans rfl; have hz_g3f1 := blk_frozen BK_g3.out 1; have hz_g32 : w1.cell? ⟨g3, 2, none⟩ = some (.slice A1_2 l1_2.length c1_2) := (blk_cell BK_g3.out 2).trans rfl; have hz_g3f2 := blk_frozen BK_g3.out 2) | ((with_reducible refine gate_dst (N := 4) rfl ?_); refine box_event ?hg (N := 4) ?hd (cs := #[.int .i64 0, .int .i64 0, .slice none 0 0]) (t := 29) ?hr ?_; (case hd => rfl); (case hg => rfl); (case hr => first | (go_simp; done) | (go_simp; rfl)); intro g4 hg w2 hbox hb; have n0_ := Aside0.mk (below_step (by repeat (first | (with_reducible first | exact HB.out | apply below_alloc | apply pw_below_drewN | apply below_drew1) | exact HB.out)) hb); have n1_ := Aside0.mk (blk_below (g := g3) (o := .cells #[.int .i64 a1_0, .int .i64 a1_1, .slice A1_2 l1_2.length c1_2] 29 (0, 0)) (by (with_reducible repeat (first | refine blk_drewN ?_ _ | refine blk_drew ?_ | refine blk_alloc ?_ _)); exact BK_g3.out) hb); have GW_g4 := Aside0.mk ((by rw [hg]; exact below_size (by repeat (first | (with_reducible first | exact HB.out | apply below_alloc | apply pw_below_drewN | apply below_drew1) | exact HB.out))) : w.heap.size ≤ g4); clear HB BK_g3; have HB := n0_; clear n0_; (try clear hz_g30 hz_g3f0 hz_g31 hz_g3f1 hz_g32 hz_g3f2); have BK_g3 := n1_; clear n1_; have BK_g4 := Aside0.mk hbox; clear hbox hb hg; have hz_g30 : w2.cell? ⟨g3, 0, none⟩ = some (.int .i64 a1_0) := (blk_cell BK_g3.out 0).trans rfl; have hz_g3f0 := blk_frozen BK_g3.out 0; have hz_g31 : w2.cell? ⟨g3, 1, none⟩ = some (.int .i64 a1_1) := (blk_cell BK_g3.out 1).trans rfl; have hz_g3f1 := blk_frozen BK_g3.out 1; have hz_g32 : w2.cell? ⟨g3, 2, none⟩ = some (.slice A1_2 l1_2.length c1_2) := (blk_cell BK_g3.out 2).trans rfl; have hz_g3f2 := blk_frozen BK_g3.out 2; have hz_g40 : w2.cell? ⟨g4, 0, none⟩ = some (.int .i64 0) := (blk_cell BK_g4.out 0).trans rfl; have hz_g4f0 := blk_frozen BK_g4.out 0; have hz_g41 : w2.cell? ⟨g4, 1, none⟩ = some (.int .i64 0) := (blk_cell BK_g4.out 1).trans rfl; have hz_g4f1 := blk_frozen BK_g4.out 1; have hz_g42 : w2.cell? ⟨g4, 2, none⟩ = some (.slice none 0 0) := (blk_cell BK_g4.out 2).trans rfl; have hz_g4f2 := blk_frozen BK_g4.out 2) | (go_at_call 20; (with_reducible refine (impl_ValidGate.calls k a0 a1_0 a1_1 _ _ l1_2 false _ ?side1 ?side2 A3.out).mono ?_); (case side1 => exact Kd.C_below HR.out (by repeat (first | (with_reducible first | exact HB.out | apply below_alloc | apply pw_below_drewN | apply below_drew1) | exact HB.out))); (case side2 => exact HC.out); rintro e w5 ⟨rfl, hb⟩; have n0_ := Aside0.mk (below_step (by repeat (first | (with_reducible first | exact HB.out | apply below_alloc | apply pw_below_drewN | apply below_drew1) | exact HB.out)) hb); have n1_ := Aside0.mk (blk_below (g := g3) (o := .cells #[.int .i64 a1_0, .int .i64 a1_1, .slice A1_2 l1_2.length c1_2] 29 (0, 0)) (by (with_reducible repeat (first | refine blk_drewN ?_ _ | refine blk_drew ?_ | refine blk_alloc ?_ _)); exact BK_g3.out) hb); have n2_ := Aside0.mk (blk_below (g := g4) (o := .cells #[.int .i64 0, .int .i64 0, .slice none 0 0] 29 (0, 0)) (by (with_reducible repeat (first | refine blk_drewN ?_ _ | refine blk_drew ?_ | refine blk_alloc ?_ _)); exact BK_g4.out) hb); clear HB BK_g3 BK_g4 hz_g30 hz_g3f0 hz_g31 hz_g3f1 hz_g32 hz_g3f2 hz_g40 hz_g4f0 hz_g41 hz_g4f1 hz_g42 hz_g4f2 hb; have HB := n0_; have BK_g3 := n1_; have BK_g4 := n2_; clear n0_ n1_ n2_; have hz_g30 : w5.cell? ⟨g3, 0, none⟩ = some (.int .i64 a1_0) := (blk_cell BK_g3.out 0).trans rfl; have hz_g3f0 := blk_frozen BK_g3.out 0; have hz_g31 : w5.cell? ⟨g3, 1, none⟩ = some (.int .i64 a1_1) := (blk_cell BK_g3.out 1).trans rfl; have hz_g3f1 := blk_frozen BK_g3.out 1; have hz_g32 : w5.cell? ⟨g3, 2, none⟩ = some (.slice A1_2 l1_2.length c1_2) := (blk_cell BK_g3.out 2).trans rfl; have hz_g3f2 := blk_frozen BK_g3.out 2; have hz_g40 : w5.cell? ⟨g4, 0, none⟩ = some (.int .i64 0) := (blk_cell BK_g4.out 0).trans rfl; have hz_g4f0 := blk_frozen BK_g4.out 0; have hz_g41 : w5.cell? ⟨g4, 1, none⟩ = some (.int .i64 0) := (blk_cell BK_g4.out 1).trans rfl; have hz_g4f1 := blk_frozen BK_g4.out 1; have hz_g42 : w5.cell? ⟨g4, 2, none⟩ = some (.slice none 0 0) := (blk_cell BK_g4.out 2).trans rfl; have hz_g4f2 := blk_frozen BK_g4.out 2))
    refine bodyPost_ret (results_ct rfl _ _ g4 29 #[.int .i64 0, .int .i64 0, .slice none 0 0] (0, 0) _ rfl (by (with_reducible repeat (first | refine blk_drewN ?_ _ | refine blk_drew ?_ | refine blk_alloc ?_ _)); refine blk_put (cs := #[.int .i64 0, .int .i64 0, .slice none 0 0]) ?_ 2 _ rfl; (with_reducible repeat (first | refine blk_drewN ?_ _ | refine blk_drew ?_ | refine blk_alloc ?_ _)); refine blk_put (cs := #[.int .i64 0, .int .i64 0, .slice none 0 0]) ?_ 1 _ rfl; (with_reducible repeat (first | refine blk_drewN ?_ _ | refine blk_drew ?_ | refine blk_alloc ?_ _)); refine blk_put (cs := #[.int .i64 0, .int .i64 0, .slice none 0 0]) ?_ 0 _ rfl; (with_reducible repeat (first | refine blk_drewN ?_ _ | refine blk_drew ?_ | refine blk_alloc ?_ _)); exact BK_g4.out) Try.underlying29 rfl (by kernel_rfl)) rfl ?_
    exact ⟨_, rfl, Kd.S_nil _ _ _ _ _, (by repeat (first | (with_reducible first | exact HB.out | apply below_alloc | apply pw_below_drewN | apply below_drew1 | refine below_set ?_ GW_g4.out) | exact HB.out))⟩

end Go.Proofs.Ytjnobnmjhpmpfaa.P

namespace Go.Proofs.Ytjnobnmjhpmpfaa.P
open Go.RowKit Go.Proofs.YtjnobnmjhpmpfaaW.PrintWords Go.Proofs.YtjnobnmjhpmpfaaW.PrintLast Go.Proofs.YtjnobnmjhpmpfaaW.PrintMore
attribute [local go_sem] max2_int min2_int max_two min_two max_three min_three max_four min_four
set_option linter.unusedVariables false
set_option linter.unusedSimpArgs false

/-! ### laws_toGate: function 14 (by hand) -/
theorem laws_toGate.calls (k : Nat) (a0_0 : Int) (a0_1 : Int) (A0_2 : Option Addr) (c0_2 : Nat) (l0_2 : List S24) (r1 : Int) (r2 : Int) (r3 : List S29) (w : World) (hr0_2 : Kd.C k24 w A0_2 l0_2.length l0_2) (hc0_2 : l0_2.length ≤ c0_2) (h : laws_toGate.f k a0_0 a0_1 l0_2 = some (r1, r2, r3)) :
    Calls Try.prog 14 #[.agg #[.int .i64 a0_0, .int .i64 a0_1, .slice A0_2 l0_2.length c0_2]] w fun e w' => ∃ v2_ : Value, e = .returned (.agg #[.int .i64 r1, .int .i64 r2, v2_]) ∧ Kd.S kG 29 w' w.heap.size (fun _ => True) v2_ r3 ∧ Below w.heap.size w w' := by
  cases k with
  | zero => exact absurd h (by simp [laws_toGate.f])
  | succ k => exact laws_toGate.calls_of k (laws_toGateS.calls k) a0_0 a0_1 A0_2 c0_2 l0_2 r1 r2 r3 w hr0_2 hc0_2 h

end Go.Proofs.Ytjnobnmjhpmpfaa.P

namespace Go.Proofs.Ytjnobnmjhpmpfaa.P
open Go.RowKit Go.Proofs.YtjnobnmjhpmpfaaW.PrintWords Go.Proofs.YtjnobnmjhpmpfaaW.PrintLast Go.Proofs.YtjnobnmjhpmpfaaW.PrintMore
attribute [local go_sem] max2_int min2_int max_two min_two max_three min_three max_four min_four
set_option linter.unusedVariables false
set_option linter.unusedSimpArgs false

/-! ### laws_FnExactTidyGate: function 9 (the law's walk, by a program of this session) -/
set_option maxHeartbeats 8000000 in
set_option maxRecDepth 100000 in
theorem laws_FnExactTidyGate.way0 (k : Nat) (a0 : Int) (a1_0 : Int) (a1_1 : Int) (A1_2 : Option Addr) (c1_2 : Nat) (l1_2 : List (S24)) (s2 : Int) (w : World) (hr1_2 : Kd.C k24 w A1_2 l1_2.length l1_2) (hc1_2 : l1_2.length ≤ c1_2) (A3 : laws_szGate.f k a1_0 a1_1 l1_2 1048576 = some s2) (t9 : decide (s2 < 0) = true) :
    Calls Try.prog 9 #[.int .i64 a0, .agg #[.int .i64 a1_0, .int .i64 a1_1, .slice A1_2 l1_2.length c1_2]] w fun e w' => e = .returned (.bool true) ∧ Below w.heap.size w w' := by
  have hu24 := Try.underlying24
  have HR1_2 := Aside0.mk hr1_2
  have HC1_2 := Aside0.mk hc1_2
  clear hr1_2 hc1_2
  have HB := Aside0.mk (Below.refl w.heap.size w)
  replace A3 := Aside0.mk A3
  go_enter Try.func9, Try.ntmps9
  go_wp2_with (first | ((with_reducible refine gate_callee (f := 12) rfl ?_); refine goesL_ (some 18) rfl rfl Try.func12 (by kernel_rfl) rfl #[.agg #[.int .i64 a1_0, .int .i64 a1_1, .slice A1_2 l1_2.length c1_2], .int .i64 1048576] rfl (by (try simp only [List.map_toArray, List.map_cons, List.map_nil]); first | done | rfl | (simp only [List.length_drop, List.length_take]; rfl)) ?_; (with_reducible refine (laws_szGate.calls k a1_0 a1_1 _ _ l1_2 1048576 s2 _ ?side1 ?side2 A3.out).mono ?_); (case side1 => exact Kd.C_below HR1_2.out (by repeat (first | (with_reducible first | exact HB.out | apply below_alloc | apply pw_below_drewN | apply below_drew1) | exact HB.out))); (case side2 => exact HC1_2.out); rintro e w1 ⟨rfl, hb⟩; refine ⟨_, rfl, ?_⟩; have n1_ := Aside0.mk (blk_below (g := w.heap.size) (o := .cells #[.int .i64 a1_0, .int .i64 a1_1, .slice A1_2 l1_2.length c1_2] 24 (0, 0)) (by repeat (first | exact blk_new_at (by simp) | (with_reducible refine blk_drewN ?_ _) | (with_reducible refine blk_drew ?_) | (with_reducible refine blk_alloc ?_ _))) hb); have n2_ := Aside0.mk (below_step (by repeat (first | (with_reducible first | exact HB.out | apply below_alloc | apply pw_below_drewN | apply below_drew1) | exact HB.out)) hb); have C4 : Aside0 (w.heap.size + 1 ≤ w1.heap.size) := ⟨by have h_ := hb.size; (try simp at h_); omega⟩; have CC := Aside0.mk C4.out; clear HB; have HX1 := n1_; clear n1_; have HB := n2_; clear n2_; (try clear hb); have hl5 : w.heap.size < w1.heap.size := blk_lt HX1.out; have hx6 : w1.cell? ⟨w.heap.size, 0, none⟩ = some (.int .i64 a1_0) := (blk_cell HX1.out 0).trans rfl; have hx7 : w1.cell? ⟨w.heap.size, 1, none⟩ = some (.int .i64 a1_1) := (blk_cell HX1.out 1).trans rfl; have hx8 : w1.cell? ⟨w.heap.size, 2, none⟩ = some (.slice A1_2 l1_2.length c1_2) := (blk_cell HX1.out 2).trans rfl))
  go_ret
  exact ⟨rfl, by repeat (first | (with_reducible first | exact HB.out | apply below_alloc | apply pw_below_drewN | apply below_drew1) | exact HB.out)⟩
set_option maxHeartbeats 8000000 in
set_option maxRecDepth 100000 in
theorem laws_FnExactTidyGate.way1 (k : Nat) (a0 : Int) (a1_0 : Int) (a1_1 : Int) (A1_2 : Option Addr) (c1_2 : Nat) (l1_2 : List (S24)) (s2 : Int) (r18 : Int) (r19 : Int) (r20 : List (S29)) (r21 : Int) (m117 : Int) (ys118 : List (S29)) (m156 : Int) (ys157 : List (S29)) (w : World) (hr1_2 : Kd.C k24 w A1_2 l1_2.length l1_2) (hc1_2 : l1_2.length ≤ c1_2) (A3 : laws_szGate.f k a1_0 a1_1 l1_2 1048576 = some s2) (t9 : decide (s2 < 0) = false) (A10 : laws_toGate.f k a1_0 a1_1 l1_2 = some (a1_0, a1_1, (cvL l1_2))) (A22 : spec_TidyGate.f k a0 a1_0 a1_1 (cvL l1_2) = some (r18, r19, r20, r21)) (A31 : laws_toGate.f k a1_0 a1_1 l1_2 = some (a1_0, a1_1, (cvL l1_2))) (A44 : impl_TidyGate.f k a0 a1_0 a1_1 (cvL l1_2) = some (r18, r19, r20, r21)) (A61 : laws_eqGate.f k r18 r19 r20 r18 r19 r20 = some true) (A79 : laws_toGate.f k a1_0 a1_1 l1_2 = some (a1_0, a1_1, (cvL l1_2))) (A99 : laws_eqGate.f k a1_0 a1_1 (cvL l1_2) a1_0 a1_1 (cvL l1_2) = some true) (A119 : laws_markGate.f k a1_0 a1_1 (cvL l1_2) 1 = some (m117, ys118)) (t137 : decide (m117 < 0) = false) (A138 : laws_eqGate.f k r18 r19 r20 r18 r19 r20 = some true) (A158 : laws_markGate.f k r18 r19 r20 1 = some (m156, ys157)) (A176 : laws_heldGate.f k r18 r19 ys157 1 = some m156) (t194 : decide (m156 < 0) = false) (A195 : laws_toGate.f k a1_0 a1_1 l1_2 = some (a1_0, a1_1, (cvL l1_2))) (A215 : impl_TidyGate.f k a0 a1_0 a1_1 (cvL l1_2) = some (r18, r19, r20, r21)) (A236 : laws_eqGate.f k r18 r19 r20 r18 r19 r20 = some true) (A258 : laws_heldGate.f k r18 r19 ys157 1 = some m156) (t280 : decide (m156 < 0) = false) :
    Calls Try.prog 9 #[.int .i64 a0, .agg #[.int .i64 a1_0, .int .i64 a1_1, .slice A1_2 l1_2.length c1_2]] w fun e w' => e = .returned (.bool true) ∧ Below w.heap.size w w' := by
  have hu24 := Try.underlying24
  have hu29 := Try.underlying29
  have HR1_2 := Aside0.mk hr1_2
  have HC1_2 := Aside0.mk hc1_2
  clear hr1_2 hc1_2
  have HB := Aside0.mk (Below.refl w.heap.size w)
  replace A3 := Aside0.mk A3
  replace A10 := Aside0.mk A10
  replace A22 := Aside0.mk A22
  replace A31 := Aside0.mk A31
  replace A44 := Aside0.mk A44
  replace A61 := Aside0.mk A61
  replace A79 := Aside0.mk A79
  replace A99 := Aside0.mk A99
  replace A119 := Aside0.mk A119
  replace A138 := Aside0.mk A138
  replace A158 := Aside0.mk A158
  replace A176 := Aside0.mk A176
  replace A195 := Aside0.mk A195
  replace A215 := Aside0.mk A215
  replace A236 := Aside0.mk A236
  replace A258 := Aside0.mk A258
  go_enter Try.func9, Try.ntmps9
  go_wp2_with (first | ((with_reducible refine gate_callee (f := 12) rfl ?_); refine goesL_ (some 18) rfl rfl Try.func12 (by kernel_rfl) rfl #[.agg #[.int .i64 a1_0, .int .i64 a1_1, .slice A1_2 l1_2.length c1_2], .int .i64 1048576] rfl (by (try simp only [List.map_toArray, List.map_cons, List.map_nil]); first | done | rfl | (simp only [List.length_drop, List.length_take]; rfl)) ?_; (with_reducible refine (laws_szGate.calls k a1_0 a1_1 _ _ l1_2 1048576 s2 _ ?side1 ?side2 A3.out).mono ?_); (case side1 => exact Kd.C_below HR1_2.out (by repeat (first | (with_reducible first | exact HB.out | apply below_alloc | apply pw_below_drewN | apply below_drew1) | exact HB.out))); (case side2 => exact HC1_2.out); rintro e w1 ⟨rfl, hb⟩; refine ⟨_, rfl, ?_⟩; have n1_ := Aside0.mk (blk_below (g := w.heap.size) (o := .cells #[.int .i64 a1_0, .int .i64 a1_1, .slice A1_2 l1_2.length c1_2] 24 (0, 0)) (by repeat (first | exact blk_new_at (by simp) | (with_reducible refine blk_drewN ?_ _) | (with_reducible refine blk_drew ?_) | (with_reducible refine blk_alloc ?_ _))) hb); have n2_ := Aside0.mk (below_step (by repeat (first | (with_reducible first | exact HB.out | apply below_alloc | apply pw_below_drewN | apply below_drew1) | exact HB.out)) hb); have C4 : Aside0 (w.heap.size + 1 ≤ w1.heap.size) := ⟨by have h_ := hb.size; (try simp at h_); omega⟩; have CC := Aside0.mk C4.out; clear HB; have HX1 := n1_; clear n1_; have HB := n2_; clear n2_; (try clear hb); have hl5 : w.heap.size < w1.heap.size := blk_lt HX1.out; have hx6 : w1.cell? ⟨w.heap.size, 0, none⟩ = some (.int .i64 a1_0) := (blk_cell HX1.out 0).trans rfl; have hx7 : w1.cell? ⟨w.heap.size, 1, none⟩ = some (.int .i64 a1_1) := (blk_cell HX1.out 1).trans rfl; have hx8 : w1.cell? ⟨w.heap.size, 2, none⟩ = some (.slice A1_2 l1_2.length c1_2) := (blk_cell HX1.out 2).trans rfl) | ((with_reducible refine gate_callee (f := 14) rfl ?_); refine goesL_ (some 24) rfl rfl Try.func14 (by kernel_rfl) rfl #[.agg #[.int .i64 a1_0, .int .i64 a1_1, .slice A1_2 l1_2.length c1_2]] rfl (by (try simp only [List.map_toArray, List.map_cons, List.map_nil]); first | done | rfl | (simp only [List.length_drop, List.length_take]; rfl)) ?_; (with_reducible refine (laws_toGate.calls k a1_0 a1_1 _ _ l1_2 a1_0 a1_1 (cvL l1_2) _ ?side1 ?side2 A10.out).mono ?_); (case side1 => exact Kd.C_below HR1_2.out (by repeat (first | (with_reducible first | exact HB.out | apply below_alloc | apply pw_below_drewN | apply below_drew1) | exact HB.out))); (case side2 => exact HC1_2.out); rintro e w2 ⟨v100_, rfl, ho0_, hb⟩; refine ⟨_, rfl, ?_⟩; have n1_ := Aside0.mk (blk_below (g := w.heap.size) (o := .cells #[.int .i64 a1_0, .int .i64 a1_1, .slice A1_2 l1_2.length c1_2] 24 (0, 0)) (by (with_reducible repeat (first | refine blk_drewN ?_ _ | refine blk_drew ?_ | refine blk_alloc ?_ _)); exact HX1.out) hb); have n2_ := Aside0.mk (below_step (by repeat (first | (with_reducible first | exact HB.out | apply below_alloc | apply pw_below_drewN | apply below_drew1) | exact HB.out)) hb); have C11 : Aside0 (w1.heap.size ≤ w2.heap.size) := ⟨by have h_ := hb.size; (try simp at h_); omega⟩; have CCn_ := Aside0.mk (And.intro CC.out C11.out); clear CC; have CC := CCn_; clear CCn_; clear HX1; clear HB; clear hl5; clear hx6; clear hx7; clear hx8; have HX1 := n1_; clear n1_; have HB := n2_; clear n2_; have HO12 := Aside0.mk (Kd.G_lower (base' := w.heap.size) (Kd.G_mono (Kd.G_bound ho0_) (ok' := fun k_ => w1.heap.size ≤ k_ ∧ k_ < w2.heap.size) (fun k_ hk_ => ⟨by have h_ := hk_.2.1; (try simp at h_); omega, hk_.2.2.1⟩)) (by have := CC.out; first | omega | (simp; done) | (simp; omega))); obtain ⟨Az13, cz13, ez13⟩ := Kd.G_slice HO12.out; subst ez13; (try clear hb); (try clear ho0_); have hl14 : w.heap.size < w2.heap.size := blk_lt HX1.out; have hx15 : w2.cell? ⟨w.heap.size, 0, none⟩ = some (.int .i64 a1_0) := (blk_cell HX1.out 0).trans rfl; have hx16 : w2.cell? ⟨w.heap.size, 1, none⟩ = some (.int .i64 a1_1) := (blk_cell HX1.out 1).trans rfl; have hx17 : w2.cell? ⟨w.heap.size, 2, none⟩ = some (.slice A1_2 l1_2.length c1_2) := (blk_cell HX1.out 2).trans rfl) | ((with_reducible refine gate_callee (f := 33) rfl ?_); refine goesL_ (some 25) rfl rfl Try.func33 (by kernel_rfl) rfl #[.int .i64 a0, .agg #[.int .i64 a1_0, .int .i64 a1_1, .slice Az13 (cvL l1_2).length cz13]] rfl (by (try simp only [List.map_toArray, List.map_cons, List.map_nil]); first | done | rfl | (simp only [List.length_drop, List.length_take]; rfl)) ?_; (with_reducible refine (spec_TidyGate.calls k a0 a1_0 a1_1 _ _ (cvL l1_2) r18 r19 r20 r21 _ ?side1 ?side2 A22.out).mono ?_); (case side1 => exact (Kd.G_reads' (n := (cvL l1_2).length) (A := Az13) (c := cz13) (by (with_reducible repeat (first | apply Kd.G_alloc | apply Kd.G_drewN | apply Kd.G_drew)); exact HO12.out)).2.2); (case side2 => exact (Kd.G_reads' (n := (cvL l1_2).length) (A := Az13) (c := cz13) HO12.out).2.1); rintro e w3 ⟨v100_, rfl, ho0_, hb⟩; refine ⟨_, rfl, ?_⟩; have n1_ := Aside0.mk (Kd.G_below (by (with_reducible repeat (first | apply Kd.G_alloc | apply Kd.G_drewN | apply Kd.G_drew)); exact HO12.out) hb); have n2_ := Aside0.mk (blk_below (g := w.heap.size) (o := .cells #[.int .i64 a1_0, .int .i64 a1_1, .slice A1_2 l1_2.length c1_2] 24 (0, 0)) (by (with_reducible repeat (first | refine blk_drewN ?_ _ | refine blk_drew ?_ | refine blk_alloc ?_ _)); exact HX1.out) hb); have n3_ := Aside0.mk (below_step (by repeat (first | (with_reducible first | exact HB.out | apply below_alloc | apply pw_below_drewN | apply below_drew1) | exact HB.out)) hb); have C23 : Aside0 (w2.heap.size ≤ w3.heap.size) := ⟨by have h_ := hb.size; (try simp at h_); omega⟩; have CCn_ := Aside0.mk (And.intro CC.out C23.out); clear CC; have CC := CCn_; clear CCn_; clear HO12; clear HX1; clear HB; clear hl14; clear hx15; clear hx16; clear hx17; have HO12 := n1_; clear n1_; have HX1 := n2_; clear n2_; have HB := n3_; clear n3_; have HO24 := Aside0.mk (Kd.G_lower (base' := w.heap.size) (Kd.G_mono (Kd.G_bound ho0_) (ok' := fun k_ => w2.heap.size ≤ k_ ∧ k_ < w3.heap.size) (fun k_ hk_ => ⟨by have h_ := hk_.2.1; (try simp at h_); omega, hk_.2.2.1⟩)) (by have := CC.out; first | omega | (simp; done) | (simp; omega))); obtain ⟨Az25, cz25, ez25⟩ := Kd.G_slice HO24.out; subst ez25; (try clear hb); (try clear ho0_); have hl26 : w.heap.size < w3.heap.size := blk_lt HX1.out; have hx27 : w3.cell? ⟨w.heap.size, 0, none⟩ = some (.int .i64 a1_0) := (blk_cell HX1.out 0).trans rfl; have hx28 : w3.cell? ⟨w.heap.size, 1, none⟩ = some (.int .i64 a1_1) := (blk_cell HX1.out 1).trans rfl; have hx29 : w3.cell? ⟨w.heap.size, 2, none⟩ = some (.slice A1_2 l1_2.length c1_2) := (blk_cell HX1.out 2).trans rfl) | ((with_reducible refine gate_callee (f := 14) rfl ?_); refine goesL_ (some 29) rfl rfl Try.func14 (by kernel_rfl) rfl #[.agg #[.int .i64 a1_0, .int .i64 a1_1, .slice A1_2 l1_2.length c1_2]] rfl (by (try simp only [List.map_toArray, List.map_cons, List.map_nil]); first | done | rfl | (simp only [List.length_drop, List.length_take]; rfl)) ?_; (with_reducible refine (laws_toGate.calls k a1_0 a1_1 _ _ l1_2 a1_0 a1_1 (cvL l1_2) _ ?side1 ?side2 A31.out).mono ?_); (case side1 => exact Kd.C_below HR1_2.out (by repeat (first | (with_reducible first | exact HB.out | apply below_alloc | apply pw_below_drewN | apply below_drew1) | exact HB.out))); (case side2 => exact HC1_2.out); rintro e w4 ⟨v100_, rfl, ho0_, hb⟩; refine ⟨_, rfl, ?_⟩; have n1_ := Aside0.mk (Kd.G_below (by (with_reducible repeat (first | apply Kd.G_alloc | apply Kd.G_drewN | apply Kd.G_drew)); exact HO24.out) hb); have n2_ := Aside0.mk (blk_below (g := w.heap.size) (o := .cells #[.int .i64 a1_0, .int .i64 a1_1, .slice A1_2 l1_2.length c1_2] 24 (0, 0)) (by (with_reducible repeat (first | refine blk_drewN ?_ _ | refine blk_drew ?_ | refine blk_alloc ?_ _)); exact HX1.out) hb); have n3_ := Aside0.mk (blk_below (g := w3.heap.size) (o := .cells #[.int .i64 r18, .int .i64 r19, .slice Az25 r20.length cz25] 29 (0, 0)) (by repeat (first | exact blk_new_at (by simp) | (with_reducible refine blk_drewN ?_ _) | (with_reducible refine blk_drew ?_) | (with_reducible refine blk_alloc ?_ _))) hb); have n4_ := Aside0.mk (below_step (by repeat (first | (with_reducible first | exact HB.out | apply below_alloc | apply pw_below_drewN | apply below_drew1) | exact HB.out)) hb); have C32 : Aside0 (w3.heap.size + 1 ≤ w4.heap.size) := ⟨by have h_ := hb.size; (try simp at h_); omega⟩; have CCn_ := Aside0.mk (And.intro CC.out C32.out); clear CC; have CC := CCn_; clear CCn_; clear HO24; clear HX1; clear HB; clear hl26; clear hx27; clear hx28; clear hx29; have HO24 := n1_; clear n1_; have HX1 := n2_; clear n2_; have HX30 := n3_; clear n3_; have HB := n4_; clear n4_; have HO33 := Aside0.mk (Kd.G_lower (base' := w.heap.size) (Kd.G_mono (Kd.G_bound ho0_) (ok' := fun k_ => w3.heap.size + 1 ≤ k_ ∧ k_ < w4.heap.size) (fun k_ hk_ => ⟨by have h_ := hk_.2.1; (try simp at h_); omega, hk_.2.2.1⟩)) (by have := CC.out; first | omega | (simp; done) | (simp; omega))); obtain ⟨Az34, cz34, ez34⟩ := Kd.G_slice HO33.out; subst ez34; (try clear hb); (try clear ho0_); have hl35 : w.heap.size < w4.heap.size := blk_lt HX1.out; have hx36 : w4.cell? ⟨w.heap.size, 0, none⟩ = some (.int .i64 a1_0) := (blk_cell HX1.out 0).trans rfl; have hx37 : w4.cell? ⟨w.heap.size, 1, none⟩ = some (.int .i64 a1_1) := (blk_cell HX1.out 1).trans rfl; have hx38 : w4.cell? ⟨w.heap.size, 2, none⟩ = some (.slice A1_2 l1_2.length c1_2) := (blk_cell HX1.out 2).trans rfl; have hl39 : w3.heap.size < w4.heap.size := blk_lt HX30.out; have hx40 : w4.cell? ⟨w3.heap.size, 0, none⟩ = some (.int .i64 r18) := (blk_cell HX30.out 0).trans rfl; have hx41 : w4.cell? ⟨w3.heap.size, 1, none⟩ = some (.int .i64 r19) := (blk_cell HX30.out 1).trans rfl; have hx42 : w4.cell? ⟨w3.heap.size, 2, none⟩ = some (.slice Az25 r20.length cz25) := (blk_cell HX30.out 2).trans rfl) | ((with_reducible refine gate_callee (f := 34) rfl ?_); refine goesL_ (some 33) rfl rfl Try.func34 (by kernel_rfl) rfl #[.int .i64 a0, .agg #[.int .i64 a1_0, .int .i64 a1_1, .slice Az34 (cvL l1_2).length cz34]] rfl (by (try simp only [List.map_toArray, List.map_cons, List.map_nil]); first | done | rfl | (simp only [List.length_drop, List.length_take]; rfl)) ?_; (with_reducible refine (impl_TidyGate.calls k a0 a1_0 a1_1 _ _ (cvL l1_2) r18 r19 r20 r21 _ ?side1 ?side2 A44.out).mono ?_); (case side1 => exact (Kd.G_reads' (n := (cvL l1_2).length) (A := Az34) (c := cz34) (by (with_reducible repeat (first | apply Kd.G_alloc | apply Kd.G_drewN | apply Kd.G_drew)); exact HO33.out)).2.2); (case side2 => exact (Kd.G_reads' (n := (cvL l1_2).length) (A := Az34) (c := cz34) HO33.out).2.1); rintro e w5 ⟨v100_, rfl, ho0_, hb⟩; refine ⟨_, rfl, ?_⟩; have n1_ := Aside0.mk (Kd.G_below (by (with_reducible repeat (first | apply Kd.G_alloc | apply Kd.G_drewN | apply Kd.G_drew)); exact HO24.out) hb); have n2_ := Aside0.mk (Kd.G_below (by (with_reducible repeat (first | apply Kd.G_alloc | apply Kd.G_drewN | apply Kd.G_drew)); exact HO33.out) hb); have n3_ := Aside0.mk (blk_below (g := w.heap.size) (o := .cells #[.int .i64 a1_0, .int .i64 a1_1, .slice A1_2 l1_2.length c1_2] 24 (0, 0)) (by (with_reducible repeat (first | refine blk_drewN ?_ _ | refine blk_drew ?_ | refine blk_alloc ?_ _)); exact HX1.out) hb); have n4_ := Aside0.mk (blk_below (g := w3.heap.size) (o := .cells #[.int .i64 r18, .int .i64 r19, .slice Az25 r20.length cz25] 29 (0, 0)) (by (with_reducible repeat (first | refine blk_drewN ?_ _ | refine blk_drew ?_ | refine blk_alloc ?_ _)); exact HX30.out) hb); have n5_ := Aside0.mk (blk_below (g := w4.heap.size) (o := .cells #[.int .i64 a1_0, .int .i64 a1_1, .slice Az34 (cvL l1_2).length cz34] 29 (0, 0)) (by repeat (first | exact blk_new_at (by simp) | (with_reducible refine blk_drewN ?_ _) | (with_reducible refine blk_drew ?_) | (with_reducible refine blk_alloc ?_ _))) hb); have n6_ := Aside0.mk (below_step (by repeat (first | (with_reducible first | exact HB.out | apply below_alloc | apply pw_below_drewN | apply below_drew1) | exact HB.out)) hb); have C45 : Aside0 (w4.heap.size + 1 ≤ w5.heap.size) := ⟨by have h_ := hb.size; (try simp at h_); omega⟩; have CCn_ := Aside0.mk (And.intro CC.out C45.out); clear CC; have CC := CCn_; clear CCn_; clear HO24; clear HO33; clear HX1; clear HX30; clear HB; clear hl35; clear hx36; clear hx37; clear hx38; clear hl39; clear hx40; clear hx41; clear hx42; have HO24 := n1_; clear n1_; have HO33 := n2_; clear n2_; have HX1 := n3_; clear n3_; have HX30 := n4_; clear n4_; have HX43 := n5_; clear n5_; have HB := n6_; clear n6_; have HO46 := Aside0.mk (Kd.G_lower (base' := w.heap.size) (Kd.G_mono (Kd.G_bound ho0_) (ok' := fun k_ => w4.heap.size + 1 ≤ k_ ∧ k_ < w5.heap.size) (fun k_ hk_ => ⟨by have h_ := hk_.2.1; (try simp at h_); omega, hk_.2.2.1⟩)) (by have := CC.out; first | omega | (simp; done) | (simp; omega))); obtain ⟨Az47, cz47, ez47⟩ := Kd.G_slice HO46.out; subst ez47; (try clear hb); (try clear ho0_); have hl48 : w.heap.size < w5.heap.size := blk_lt HX1.out; have hx49 : w5.cell? ⟨w.heap.size, 0, none⟩ = some (.int .i64 a1_0) := (blk_cell HX1.out 0).trans rfl; have hx50 : w5.cell? ⟨w.heap.size, 1, none⟩ = some (.int .i64 a1_1) := (blk_cell HX1.out 1).trans rfl; have hx51 : w5.cell? ⟨w.heap.size, 2, none⟩ = some (.slice A1_2 l1_2.length c1_2) := (blk_cell HX1.out 2).trans rfl; have hl52 : w3.heap.size < w5.heap.size := blk_lt HX30.out; have hx53 : w5.cell? ⟨w3.heap.size, 0, none⟩ = some (.int .i64 r18) := (blk_cell HX30.out 0).trans rfl; have hx54 : w5.cell? ⟨w3.heap.size, 1, none⟩ = some (.int .i64 r19) := (blk_cell HX30.out 1).trans rfl; have hx55 : w5.cell? ⟨w3.heap.size, 2, none⟩ = some (.slice Az25 r20.length cz25) := (blk_cell HX30.out 2).trans rfl; have hl56 : w4.heap.size < w5.heap.size := blk_lt HX43.out; have hx57 : w5.cell? ⟨w4.heap.size, 0, none⟩ = some (.int .i64 a1_0) := (blk_cell HX43.out 0).trans rfl; have hx58 : w5.cell? ⟨w4.heap.size, 1, none⟩ = some (.int .i64 a1_1) := (blk_cell HX43.out 1).trans rfl; have hx59 : w5.cell? ⟨w4.heap.size, 2, none⟩ = some (.slice Az34 (cvL l1_2).length cz34) := (blk_cell HX43.out 2).trans rfl) | ((with_reducible refine gate_callee (f := 16) rfl ?_); refine goesL_ (some 38) rfl rfl Try.func16 (by kernel_rfl) rfl #[.agg #[.int .i64 r18, .int .i64 r19, .slice Az47 r20.length cz47], .agg #[.int .i64 r18, .int .i64 r19, .slice Az25 r20.length cz25]] rfl (by (try simp only [List.map_toArray, List.map_cons, List.map_nil]); first | done | rfl | (simp only [List.length_drop, List.length_take]; rfl)) ?_; (with_reducible refine (laws_eqGate.calls k r18 r19 _ _ r20 r18 r19 _ _ r20 true _ ?side1 ?side2 ?side3 ?side4 A61.out).mono ?_); (case side1 => exact (Kd.G_reads' (n := r20.length) (A := Az47) (c := cz47) (by (with_reducible repeat (first | apply Kd.G_alloc | apply Kd.G_drewN | apply Kd.G_drew)); exact HO46.out)).2.2); (case side2 => exact (Kd.G_reads' (n := r20.length) (A := Az47) (c := cz47) HO46.out).2.1); (case side3 => exact (Kd.G_reads' (n := r20.length) (A := Az25) (c := cz25) (by (with_reducible repeat (first | apply Kd.G_alloc | apply Kd.G_drewN | apply Kd.G_drew)); exact HO24.out)).2.2); (case side4 => exact (Kd.G_reads' (n := r20.length) (A := Az25) (c := cz25) HO24.out).2.1); rintro e w6 ⟨rfl, hb⟩; refine ⟨_, rfl, ?_⟩; have n1_ := Aside0.mk (Kd.G_below (by (with_reducible repeat (first | apply Kd.G_alloc | apply Kd.G_drewN | apply Kd.G_drew)); exact HO24.out) hb); have n2_ := Aside0.mk (Kd.G_below (by (with_reducible repeat (first | apply Kd.G_alloc | apply Kd.G_drewN | apply Kd.G_drew)); exact HO33.out) hb); have n3_ := Aside0.mk (Kd.G_below (by (with_reducible repeat (first | apply Kd.G_alloc | apply Kd.G_drewN | apply Kd.G_drew)); exact HO46.out) hb); have n4_ := Aside0.mk (blk_below (g := w.heap.size) (o := .cells #[.int .i64 a1_0, .int .i64 a1_1, .slice A1_2 l1_2.length c1_2] 24 (0, 0)) (by (with_reducible repeat (first | refine blk_drewN ?_ _ | refine blk_drew ?_ | refine blk_alloc ?_ _)); exact HX1.out) hb); have n5_ := Aside0.mk (blk_below (g := w3.heap.size) (o := .cells #[.int .i64 r18, .int .i64 r19, .slice Az25 r20.length cz25] 29 (0, 0)) (by (with_reducible repeat (first | refine blk_drewN ?_ _ | refine blk_drew ?_ | refine blk_alloc ?_ _)); exact HX30.out) hb); have n6_ := Aside0.mk (blk_below (g := w4.heap.size) (o := .cells #[.int .i64 a1_0, .int .i64 a1_1, .slice Az34 (cvL l1_2).length cz34] 29 (0, 0)) (by (with_reducible repeat (first | refine blk_drewN ?_ _ | refine blk_drew ?_ | refine blk_alloc ?_ _)); exact HX43.out) hb); have n7_ := Aside0.mk (blk_below (g := w5.heap.size) (o := .cells #[.int .i64 r18, .int .i64 r19, .slice Az47 r20.length cz47] 29 (0, 0)) (by repeat (first | exact blk_new_at (by simp) | (with_reducible refine blk_drewN ?_ _) | (with_reducible refine blk_drew ?_) | (with_reducible refine blk_alloc ?_ _))) hb); have n8_ := Aside0.mk (below_step (by repeat (first | (with_reducible first | exact HB.out | apply below_alloc | apply pw_below_drewN | apply below_drew1) | exact HB.out)) hb); have C62 : Aside0 (w5.heap.size + 1 ≤ w6.heap.size) := ⟨by have h_ := hb.size; (try simp at h_); omega⟩; have CCn_ := Aside0.mk (And.intro CC.out C62.out); clear CC; have CC := CCn_; clear CCn_; clear HO24; clear HO33; clear HO46; clear HX1; clear HX30; clear HX43; clear HB; clear hl48; clear hx49; clear hx50; clear hx51; clear hl52; clear hx53; clear hx54; clear hx55; clear hl56; clear hx57; clear hx58; clear hx59; have HO24 := n1_; clear n1_; have HO33 := n2_; clear n2_; have HO46 := n3_; clear n3_; have HX1 := n4_; clear n4_; have HX30 := n5_; clear n5_; have HX43 := n6_; clear n6_; have HX60 := n7_; clear n7_; have HB := n8_; clear n8_; (try clear hb); have hl63 : w.heap.size < w6.heap.size := blk_lt HX1.out; have hx64 : w6.cell? ⟨w.heap.size, 0, none⟩ = some (.int .i64 a1_0) := (blk_cell HX1.out 0).trans rfl; have hx65 : w6.cell? ⟨w.heap.size, 1, none⟩ = some (.int .i64 a1_1) := (blk_cell HX1.out 1).trans rfl; have hx66 : w6.cell? ⟨w.heap.size, 2, none⟩ = some (.slice A1_2 l1_2.length c1_2) := (blk_cell HX1.out 2).trans rfl; have hl67 : w3.heap.size < w6.heap.size := blk_lt HX30.out; have hx68 : w6.cell? ⟨w3.heap.size, 0, none⟩ = some (.int .i64 r18) := (blk_cell HX30.out 0).trans rfl; have hx69 : w6.cell? ⟨w3.heap.size, 1, none⟩ = some (.int .i64 r19) := (blk_cell HX30.out 1).trans rfl; have hx70 : w6.cell? ⟨w3.heap.size, 2, none⟩ = some (.slice Az25 r20.length cz25) := (blk_cell HX30.out 2).trans rfl; have hl71 : w4.heap.size < w6.heap.size := blk_lt HX43.out; have hx72 : w6.cell? ⟨w4.heap.size, 0, none⟩ = some (.int .i64 a1_0) := (blk_cell HX43.out 0).trans rfl; have hx73 : w6.cell? ⟨w4.heap.size, 1, none⟩ = some (.int .i64 a1_1) := (blk_cell HX43.out 1).trans rfl; have hx74 : w6.cell? ⟨w4.heap.size, 2, none⟩ = some (.slice Az34 (cvL l1_2).length cz34) := (blk_cell HX43.out 2).trans rfl; have hl75 : w5.heap.size < w6.heap.size := blk_lt HX60.out; have hx76 : w6.cell? ⟨w5.heap.size, 0, none⟩ = some (.int .i64 r18) := (blk_cell HX60.out 0).trans rfl; have hx77 : w6.cell? ⟨w5.heap.size, 1, none⟩ = some (.int .i64 r19) := (blk_cell HX60.out 1).trans rfl; have hx78 : w6.cell? ⟨w5.heap.size, 2, none⟩ = some (.slice Az47 r20.length cz47) := (blk_cell HX60.out 2).trans rfl))
  go_region_held3 (fun w' => w'.cell? ⟨w4.heap.size, 0, none⟩ = some (.int .i64 a1_0) ∧ w'.cell? ⟨w4.heap.size, 1, none⟩ = some (.int .i64 a1_1) ∧ w'.cell? ⟨w4.heap.size, 2, none⟩ = some (.slice Az34 (cvL l1_2).length cz34) ∧ w'.cell? ⟨w.heap.size, 0, none⟩ = some (.int .i64 a1_0) ∧ w'.cell? ⟨w.heap.size, 1, none⟩ = some (.int .i64 a1_1) ∧ w'.cell? ⟨w.heap.size, 2, none⟩ = some (.slice A1_2 l1_2.length c1_2)) (first | ((repeat' apply And.intro) <;> assumption) | go_keep) (first | (go_at_call 14; (with_reducible refine (laws_toGate.calls k a1_0 a1_1 _ _ l1_2 a1_0 a1_1 (cvL l1_2) _ ?side1 ?side2 A79.out).mono ?_); (case side1 => exact Kd.C_below HR1_2.out (by repeat (first | (with_reducible first | exact HB.out | apply below_alloc | apply pw_below_drewN | apply below_drew1) | exact HB.out))); (case side2 => exact HC1_2.out); rintro e w7 ⟨v100_, rfl, ho0_, hb⟩; have n1_ := Aside0.mk (Kd.G_below (by (with_reducible repeat (first | apply Kd.G_alloc | apply Kd.G_drewN | apply Kd.G_drew)); exact HO24.out) hb); have n2_ := Aside0.mk (Kd.G_below (by (with_reducible repeat (first | apply Kd.G_alloc | apply Kd.G_drewN | apply Kd.G_drew)); exact HO33.out) hb); have n3_ := Aside0.mk (Kd.G_below (by (with_reducible repeat (first | apply Kd.G_alloc | apply Kd.G_drewN | apply Kd.G_drew)); exact HO46.out) hb); have n4_ := Aside0.mk (blk_below (g := w.heap.size) (o := .cells #[.int .i64 a1_0, .int .i64 a1_1, .slice A1_2 l1_2.length c1_2] 24 (0, 0)) (by (with_reducible repeat (first | refine blk_drewN ?_ _ | refine blk_drew ?_ | refine blk_alloc ?_ _)); exact HX1.out) hb); have n5_ := Aside0.mk (blk_below (g := w3.heap.size) (o := .cells #[.int .i64 r18, .int .i64 r19, .slice Az25 r20.length cz25] 29 (0, 0)) (by (with_reducible repeat (first | refine blk_drewN ?_ _ | refine blk_drew ?_ | refine blk_alloc ?_ _)); exact HX30.out) hb); have n6_ := Aside0.mk (blk_below (g := w4.heap.size) (o := .cells #[.int .i64 a1_0, .int .i64 a1_1, .slice Az34 (cvL l1_2).length cz34] 29 (0, 0)) (by (with_reducible repeat (first | refine blk_drewN ?_ _ | refine blk_drew ?_ | refine blk_alloc ?_ _)); exact HX43.out) hb); have n7_ := Aside0.mk (blk_below (g := w5.heap.size) (o := .cells #[.int .i64 r18, .int .i64 r19, .slice Az47 r20.length cz47] 29 (0, 0)) (by (with_reducible repeat (first | refine blk_drewN ?_ _ | refine blk_drew ?_ | refine blk_alloc ?_ _)); exact HX60.out) hb); have n8_ := Aside0.mk (below_step (by repeat (first | (with_reducible first | exact HB.out | apply below_alloc | apply pw_below_drewN | apply below_drew1) | exact HB.out)) hb); have C80 : Aside0 (w6.heap.size ≤ w7.heap.size) := ⟨by have h_ := hb.size; (try simp at h_); omega⟩; have CCn_ := Aside0.mk (And.intro CC.out C80.out); clear CC; have CC := CCn_; clear CCn_; clear HO24; clear HO33; clear HO46; clear HX1; clear HX30; clear HX43; clear HX60; clear HB; clear hl63; clear hx64; clear hx65; clear hx66; clear hl67; clear hx68; clear hx69; clear hx70; clear hl71; clear hx72; clear hx73; clear hx74; clear hl75; clear hx76; clear hx77; clear hx78; have HO24 := n1_; clear n1_; have HO33 := n2_; clear n2_; have HO46 := n3_; clear n3_; have HX1 := n4_; clear n4_; have HX30 := n5_; clear n5_; have HX43 := n6_; clear n6_; have HX60 := n7_; clear n7_; have HB := n8_; clear n8_; have HO81 := Aside0.mk (Kd.G_lower (base' := w.heap.size) (Kd.G_mono (Kd.G_bound ho0_) (ok' := fun k_ => w6.heap.size ≤ k_ ∧ k_ < w7.heap.size) (fun k_ hk_ => ⟨by have h_ := hk_.2.1; (try simp at h_); omega, hk_.2.2.1⟩)) (by have := CC.out; first | omega | (simp; done) | (simp; omega))); obtain ⟨Az82, cz82, ez82⟩ := Kd.G_slice HO81.out; subst ez82; (try clear hb); (try clear ho0_); have hl83 : w.heap.size < w7.heap.size := blk_lt HX1.out; have hx84 : w7.cell? ⟨w.heap.size, 0, none⟩ = some (.int .i64 a1_0) := (blk_cell HX1.out 0).trans rfl; have hx85 : w7.cell? ⟨w.heap.size, 1, none⟩ = some (.int .i64 a1_1) := (blk_cell HX1.out 1).trans rfl; have hx86 : w7.cell? ⟨w.heap.size, 2, none⟩ = some (.slice A1_2 l1_2.length c1_2) := (blk_cell HX1.out 2).trans rfl; have hl87 : w3.heap.size < w7.heap.size := blk_lt HX30.out; have hx88 : w7.cell? ⟨w3.heap.size, 0, none⟩ = some (.int .i64 r18) := (blk_cell HX30.out 0).trans rfl; have hx89 : w7.cell? ⟨w3.heap.size, 1, none⟩ = some (.int .i64 r19) := (blk_cell HX30.out 1).trans rfl; have hx90 : w7.cell? ⟨w3.heap.size, 2, none⟩ = some (.slice Az25 r20.length cz25) := (blk_cell HX30.out 2).trans rfl; have hl91 : w4.heap.size < w7.heap.size := blk_lt HX43.out; have hx92 : w7.cell? ⟨w4.heap.size, 0, none⟩ = some (.int .i64 a1_0) := (blk_cell HX43.out 0).trans rfl; have hx93 : w7.cell? ⟨w4.heap.size, 1, none⟩ = some (.int .i64 a1_1) := (blk_cell HX43.out 1).trans rfl; have hx94 : w7.cell? ⟨w4.heap.size, 2, none⟩ = some (.slice Az34 (cvL l1_2).length cz34) := (blk_cell HX43.out 2).trans rfl; have hl95 : w5.heap.size < w7.heap.size := blk_lt HX60.out; have hx96 : w7.cell? ⟨w5.heap.size, 0, none⟩ = some (.int .i64 r18) := (blk_cell HX60.out 0).trans rfl; have hx97 : w7.cell? ⟨w5.heap.size, 1, none⟩ = some (.int .i64 r19) := (blk_cell HX60.out 1).trans rfl; have hx98 : w7.cell? ⟨w5.heap.size, 2, none⟩ = some (.slice Az47 r20.length cz47) := (blk_cell HX60.out 2).trans rfl) | (go_at_call 16; (with_reducible refine (laws_eqGate.calls k a1_0 a1_1 _ _ (cvL l1_2) a1_0 a1_1 _ _ (cvL l1_2) true _ ?side1 ?side2 ?side3 ?side4 A99.out).mono ?_); (case side1 => exact (Kd.G_reads' (n := (cvL l1_2).length) (A := Az34) (c := cz34) (by (with_reducible repeat (first | apply Kd.G_alloc | apply Kd.G_drewN | apply Kd.G_drew)); exact HO33.out)).2.2); (case side2 => exact (Kd.G_reads' (n := (cvL l1_2).length) (A := Az34) (c := cz34) HO33.out).2.1); (case side3 => exact (Kd.G_reads' (n := (cvL l1_2).length) (A := Az82) (c := cz82) (by (with_reducible repeat (first | apply Kd.G_alloc | apply Kd.G_drewN | apply Kd.G_drew)); exact HO81.out)).2.2); (case side4 => exact (Kd.G_reads' (n := (cvL l1_2).length) (A := Az82) (c := cz82) HO81.out).2.1); rintro e w8 ⟨rfl, hb⟩; have n1_ := Aside0.mk (Kd.G_below (by (with_reducible repeat (first | apply Kd.G_alloc | apply Kd.G_drewN | apply Kd.G_drew)); exact HO24.out) hb); have n2_ := Aside0.mk (Kd.G_below (by (with_reducible repeat (first | apply Kd.G_alloc | apply Kd.G_drewN | apply Kd.G_drew)); exact HO33.out) hb); have n3_ := Aside0.mk (Kd.G_below (by (with_reducible repeat (first | apply Kd.G_alloc | apply Kd.G_drewN | apply Kd.G_drew)); exact HO46.out) hb); have n4_ := Aside0.mk (Kd.G_below (by (with_reducible repeat (first | apply Kd.G_alloc | apply Kd.G_drewN | apply Kd.G_drew)); exact HO81.out) hb); have n5_ := Aside0.mk (blk_below (g := w.heap.size) (o := .cells #[.int .i64 a1_0, .int .i64 a1_1, .slice A1_2 l1_2.length c1_2] 24 (0, 0)) (by (with_reducible repeat (first | refine blk_drewN ?_ _ | refine blk_drew ?_ | refine blk_alloc ?_ _)); exact HX1.out) hb); have n6_ := Aside0.mk (blk_below (g := w3.heap.size) (o := .cells #[.int .i64 r18, .int .i64 r19, .slice Az25 r20.length cz25] 29 (0, 0)) (by (with_reducible repeat (first | refine blk_drewN ?_ _ | refine blk_drew ?_ | refine blk_alloc ?_ _)); exact HX30.out) hb); have n7_ := Aside0.mk (blk_below (g := w4.heap.size) (o := .cells #[.int .i64 a1_0, .int .i64 a1_1, .slice Az34 (cvL l1_2).length cz34] 29 (0, 0)) (by (with_reducible repeat (first | refine blk_drewN ?_ _ | refine blk_drew ?_ | refine blk_alloc ?_ _)); exact HX43.out) hb); have n8_ := Aside0.mk (blk_below (g := w5.heap.size) (o := .cells #[.int .i64 r18, .int .i64 r19, .slice Az47 r20.length cz47] 29 (0, 0)) (by (with_reducible repeat (first | refine blk_drewN ?_ _ | refine blk_drew ?_ | refine blk_alloc ?_ _)); exact HX60.out) hb); have n9_ := Aside0.mk (below_step (by repeat (first | (with_reducible first | exact HB.out | apply below_alloc | apply pw_below_drewN | apply below_drew1) | exact HB.out)) hb); have C100 : Aside0 (w7.heap.size ≤ w8.heap.size) := ⟨by have h_ := hb.size; (try simp at h_); omega⟩; have CCn_ := Aside0.mk (And.intro CC.out C100.out); clear CC; have CC := CCn_; clear CCn_; clear HO24; clear HO33; clear HO46; clear HO81; clear HX1; clear HX30; clear HX43; clear HX60; clear HB; clear hl83; clear hx84; clear hx85; clear hx86; clear hl87; clear hx88; clear hx89; clear hx90; clear hl91; clear hx92; clear hx93; clear hx94; clear hl95; clear hx96; clear hx97; clear hx98; have HO24 := n1_; clear n1_; have HO33 := n2_; clear n2_; have HO46 := n3_; clear n3_; have HO81 := n4_; clear n4_; have HX1 := n5_; clear n5_; have HX30 := n6_; clear n6_; have HX43 := n7_; clear n7_; have HX60 := n8_; clear n8_; have HB := n9_; clear n9_; (try clear hb); have hl101 : w.heap.size < w8.heap.size := blk_lt HX1.out; have hx102 : w8.cell? ⟨w.heap.size, 0, none⟩ = some (.int .i64 a1_0) := (blk_cell HX1.out 0).trans rfl; have hx103 : w8.cell? ⟨w.heap.size, 1, none⟩ = some (.int .i64 a1_1) := (blk_cell HX1.out 1).trans rfl; have hx104 : w8.cell? ⟨w.heap.size, 2, none⟩ = some (.slice A1_2 l1_2.length c1_2) := (blk_cell HX1.out 2).trans rfl; have hl105 : w3.heap.size < w8.heap.size := blk_lt HX30.out; have hx106 : w8.cell? ⟨w3.heap.size, 0, none⟩ = some (.int .i64 r18) := (blk_cell HX30.out 0).trans rfl; have hx107 : w8.cell? ⟨w3.heap.size, 1, none⟩ = some (.int .i64 r19) := (blk_cell HX30.out 1).trans rfl; have hx108 : w8.cell? ⟨w3.heap.size, 2, none⟩ = some (.slice Az25 r20.length cz25) := (blk_cell HX30.out 2).trans rfl; have hl109 : w4.heap.size < w8.heap.size := blk_lt HX43.out; have hx110 : w8.cell? ⟨w4.heap.size, 0, none⟩ = some (.int .i64 a1_0) := (blk_cell HX43.out 0).trans rfl; have hx111 : w8.cell? ⟨w4.heap.size, 1, none⟩ = some (.int .i64 a1_1) := (blk_cell HX43.out 1).trans rfl; have hx112 : w8.cell? ⟨w4.heap.size, 2, none⟩ = some (.slice Az34 (cvL l1_2).length cz34) := (blk_cell HX43.out 2).trans rfl; have hl113 : w5.heap.size < w8.heap.size := blk_lt HX60.out; have hx114 : w8.cell? ⟨w5.heap.size, 0, none⟩ = some (.int .i64 r18) := (blk_cell HX60.out 0).trans rfl; have hx115 : w8.cell? ⟨w5.heap.size, 1, none⟩ = some (.int .i64 r19) := (blk_cell HX60.out 1).trans rfl; have hx116 : w8.cell? ⟨w5.heap.size, 2, none⟩ = some (.slice Az47 r20.length cz47) := (blk_cell HX60.out 2).trans rfl))
  go_wp2_with (first | ((with_reducible refine gate_callee (f := 23) rfl ?_); refine goesL_ (some 52) rfl rfl Try.func23 (by kernel_rfl) rfl #[.agg #[.int .i64 a1_0, .int .i64 a1_1, .slice Az34 (cvL l1_2).length cz34], .int .i64 1] rfl (by (try simp only [List.map_toArray, List.map_cons, List.map_nil]); first | done | rfl | (simp only [List.length_drop, List.length_take]; rfl)) ?_; (with_reducible refine (laws_markGate.callsM k a1_0 a1_1 (fun k_ => w3.heap.size + 1 ≤ k_ ∧ k_ < w4.heap.size) (.slice Az34 (cvL l1_2).length cz34) (cvL l1_2) 1 m117 ys118 w _ ?side1 ?side2 A119.out).mono ?_); (case side1 => repeat (first | (with_reducible first | exact HB.out | apply below_alloc | apply pw_below_drewN | apply below_drew1) | exact HB.out)); (case side2 => exact (by (with_reducible repeat (first | apply Kd.G_alloc | apply Kd.G_drewN | apply Kd.G_drew)); exact HO33.out)); rintro e w9 ⟨rfl, hm0_, hbk, hk⟩; refine ⟨_, rfl, ?_⟩; have n1_ := Aside0.mk (Kd.G_kept (by (with_reducible repeat (first | apply Kd.G_alloc | apply Kd.G_drewN | apply Kd.G_drew)); exact HO24.out) hk (fun k_ hk_ hs_ => by have := CC.out; have h1_ := hk_; have h2_ := hs_; omega)); have n2_ := Aside0.mk (Kd.G_kept (by (with_reducible repeat (first | apply Kd.G_alloc | apply Kd.G_drewN | apply Kd.G_drew)); exact HO46.out) hk (fun k_ hk_ hs_ => by have := CC.out; have h1_ := hk_; have h2_ := hs_; omega)); have n3_ := Aside0.mk (blk_kept (g := w.heap.size) (o := .cells #[.int .i64 a1_0, .int .i64 a1_1, .slice A1_2 l1_2.length c1_2] 24 (0, 0)) (by (with_reducible repeat (first | refine blk_drewN ?_ _ | refine blk_drew ?_ | refine blk_alloc ?_ _)); exact HX1.out) hk (fun hs_ => by have := CC.out; have h2_ := hs_; omega)); have n4_ := Aside0.mk (blk_kept (g := w3.heap.size) (o := .cells #[.int .i64 r18, .int .i64 r19, .slice Az25 r20.length cz25] 29 (0, 0)) (by (with_reducible repeat (first | refine blk_drewN ?_ _ | refine blk_drew ?_ | refine blk_alloc ?_ _)); exact HX30.out) hk (fun hs_ => by have := CC.out; have h2_ := hs_; omega)); have n5_ := Aside0.mk (blk_kept (g := w4.heap.size) (o := .cells #[.int .i64 a1_0, .int .i64 a1_1, .slice Az34 (cvL l1_2).length cz34] 29 (0, 0)) (by (with_reducible repeat (first | refine blk_drewN ?_ _ | refine blk_drew ?_ | refine blk_alloc ?_ _)); exact HX43.out) hk (fun hs_ => by have := CC.out; have h2_ := hs_; omega)); have n6_ := Aside0.mk (blk_kept (g := w5.heap.size) (o := .cells #[.int .i64 r18, .int .i64 r19, .slice Az47 r20.length cz47] 29 (0, 0)) (by (with_reducible repeat (first | refine blk_drewN ?_ _ | refine blk_drew ?_ | refine blk_alloc ?_ _)); exact HX60.out) hk (fun hs_ => by have := CC.out; have h2_ := hs_; omega)); have n7_ := Aside0.mk (hbk); have C120 : Aside0 (w8.heap.size ≤ w9.heap.size) := ⟨by have h_ := hk.1; (try simp at h_); omega⟩; have CCn_ := Aside0.mk (And.intro CC.out C120.out); clear CC; have CC := CCn_; clear CCn_; clear HO24; clear HO46; clear HX1; clear HX30; clear HX43; clear HX60; clear HB; clear hl101; clear hx102; clear hx103; clear hx104; clear hl105; clear hx106; clear hx107; clear hx108; clear hl109; clear hx110; clear hx111; clear hx112; clear hl113; clear hx114; clear hx115; clear hx116; have HO24 := n1_; clear n1_; have HO46 := n2_; clear n2_; have HX1 := n3_; clear n3_; have HX30 := n4_; clear n4_; have HX43 := n5_; clear n5_; have HX60 := n6_; clear n6_; have HB := n7_; clear n7_; clear HO33; have HO33 := Aside0.mk hm0_; (try clear hk); (try clear hbk); (try clear hm0_); have hl121 : w.heap.size < w9.heap.size := blk_lt HX1.out; have hx122 : w9.cell? ⟨w.heap.size, 0, none⟩ = some (.int .i64 a1_0) := (blk_cell HX1.out 0).trans rfl; have hx123 : w9.cell? ⟨w.heap.size, 1, none⟩ = some (.int .i64 a1_1) := (blk_cell HX1.out 1).trans rfl; have hx124 : w9.cell? ⟨w.heap.size, 2, none⟩ = some (.slice A1_2 l1_2.length c1_2) := (blk_cell HX1.out 2).trans rfl; have hl125 : w3.heap.size < w9.heap.size := blk_lt HX30.out; have hx126 : w9.cell? ⟨w3.heap.size, 0, none⟩ = some (.int .i64 r18) := (blk_cell HX30.out 0).trans rfl; have hx127 : w9.cell? ⟨w3.heap.size, 1, none⟩ = some (.int .i64 r19) := (blk_cell HX30.out 1).trans rfl; have hx128 : w9.cell? ⟨w3.heap.size, 2, none⟩ = some (.slice Az25 r20.length cz25) := (blk_cell HX30.out 2).trans rfl; have hl129 : w4.heap.size < w9.heap.size := blk_lt HX43.out; have hx130 : w9.cell? ⟨w4.heap.size, 0, none⟩ = some (.int .i64 a1_0) := (blk_cell HX43.out 0).trans rfl; have hx131 : w9.cell? ⟨w4.heap.size, 1, none⟩ = some (.int .i64 a1_1) := (blk_cell HX43.out 1).trans rfl; have hx132 : w9.cell? ⟨w4.heap.size, 2, none⟩ = some (.slice Az34 (cvL l1_2).length cz34) := (blk_cell HX43.out 2).trans rfl; have hl133 : w5.heap.size < w9.heap.size := blk_lt HX60.out; have hx134 : w9.cell? ⟨w5.heap.size, 0, none⟩ = some (.int .i64 r18) := (blk_cell HX60.out 0).trans rfl; have hx135 : w9.cell? ⟨w5.heap.size, 1, none⟩ = some (.int .i64 r19) := (blk_cell HX60.out 1).trans rfl; have hx136 : w9.cell? ⟨w5.heap.size, 2, none⟩ = some (.slice Az47 r20.length cz47) := (blk_cell HX60.out 2).trans rfl) | (go_at_call 16; (with_reducible refine (laws_eqGate.calls k r18 r19 _ _ r20 r18 r19 _ _ r20 true _ ?side1 ?side2 ?side3 ?side4 A138.out).mono ?_); (case side1 => exact (Kd.G_reads' (n := r20.length) (A := Az47) (c := cz47) (by (with_reducible repeat (first | apply Kd.G_alloc | apply Kd.G_drewN | apply Kd.G_drew)); exact HO46.out)).2.2); (case side2 => exact (Kd.G_reads' (n := r20.length) (A := Az47) (c := cz47) HO46.out).2.1); (case side3 => exact (Kd.G_reads' (n := r20.length) (A := Az25) (c := cz25) (by (with_reducible repeat (first | apply Kd.G_alloc | apply Kd.G_drewN | apply Kd.G_drew)); exact HO24.out)).2.2); (case side4 => exact (Kd.G_reads' (n := r20.length) (A := Az25) (c := cz25) HO24.out).2.1); rintro e w10 ⟨rfl, hb⟩; have n1_ := Aside0.mk (Kd.G_below (by (with_reducible repeat (first | apply Kd.G_alloc | apply Kd.G_drewN | apply Kd.G_drew)); exact HO24.out) hb); have n2_ := Aside0.mk (Kd.G_below (by (with_reducible repeat (first | apply Kd.G_alloc | apply Kd.G_drewN | apply Kd.G_drew)); exact HO33.out) hb); have n3_ := Aside0.mk (Kd.G_below (by (with_reducible repeat (first | apply Kd.G_alloc | apply Kd.G_drewN | apply Kd.G_drew)); exact HO46.out) hb); have n4_ := Aside0.mk (blk_below (g := w.heap.size) (o := .cells #[.int .i64 a1_0, .int .i64 a1_1, .slice A1_2 l1_2.length c1_2] 24 (0, 0)) (by (with_reducible repeat (first | refine blk_drewN ?_ _ | refine blk_drew ?_ | refine blk_alloc ?_ _)); exact HX1.out) hb); have n5_ := Aside0.mk (blk_below (g := w3.heap.size) (o := .cells #[.int .i64 r18, .int .i64 r19, .slice Az25 r20.length cz25] 29 (0, 0)) (by (with_reducible repeat (first | refine blk_drewN ?_ _ | refine blk_drew ?_ | refine blk_alloc ?_ _)); exact HX30.out) hb); have n6_ := Aside0.mk (blk_below (g := w4.heap.size) (o := .cells #[.int .i64 a1_0, .int .i64 a1_1, .slice Az34 (cvL l1_2).length cz34] 29 (0, 0)) (by (with_reducible repeat (first | refine blk_drewN ?_ _ | refine blk_drew ?_ | refine blk_alloc ?_ _)); exact HX43.out) hb); have n7_ := Aside0.mk (blk_below (g := w5.heap.size) (o := .cells #[.int .i64 r18, .int .i64 r19, .slice Az47 r20.length cz47] 29 (0, 0)) (by (with_reducible repeat (first | refine blk_drewN ?_ _ | refine blk_drew ?_ | refine blk_alloc ?_ _)); exact HX60.out) hb); have n8_ := Aside0.mk (below_step (by repeat (first | (with_reducible first | exact HB.out | apply below_alloc | apply pw_below_drewN | apply below_drew1) | exact HB.out)) hb); have C139 : Aside0 (w9.heap.size ≤ w10.heap.size) := ⟨by have h_ := hb.size; (try simp at h_); omega⟩; have CCn_ := Aside0.mk (And.intro CC.out C139.out); clear CC; have CC := CCn_; clear CCn_; clear HO24; clear HO33; clear HO46; clear HX1; clear HX30; clear HX43; clear HX60; clear HB; clear hl121; clear hx122; clear hx123; clear hx124; clear hl125; clear hx126; clear hx127; clear hx128; clear hl129; clear hx130; clear hx131; clear hx132; clear hl133; clear hx134; clear hx135; clear hx136; have HO24 := n1_; clear n1_; have HO33 := n2_; clear n2_; have HO46 := n3_; clear n3_; have HX1 := n4_; clear n4_; have HX30 := n5_; clear n5_; have HX43 := n6_; clear n6_; have HX60 := n7_; clear n7_; have HB := n8_; clear n8_; (try clear hb); have hl140 : w.heap.size < w10.heap.size := blk_lt HX1.out; have hx141 : w10.cell? ⟨w.heap.size, 0, none⟩ = some (.int .i64 a1_0) := (blk_cell HX1.out 0).trans rfl; have hx142 : w10.cell? ⟨w.heap.size, 1, none⟩ = some (.int .i64 a1_1) := (blk_cell HX1.out 1).trans rfl; have hx143 : w10.cell? ⟨w.heap.size, 2, none⟩ = some (.slice A1_2 l1_2.length c1_2) := (blk_cell HX1.out 2).trans rfl; have hl144 : w3.heap.size < w10.heap.size := blk_lt HX30.out; have hx145 : w10.cell? ⟨w3.heap.size, 0, none⟩ = some (.int .i64 r18) := (blk_cell HX30.out 0).trans rfl; have hx146 : w10.cell? ⟨w3.heap.size, 1, none⟩ = some (.int .i64 r19) := (blk_cell HX30.out 1).trans rfl; have hx147 : w10.cell? ⟨w3.heap.size, 2, none⟩ = some (.slice Az25 r20.length cz25) := (blk_cell HX30.out 2).trans rfl; have hl148 : w4.heap.size < w10.heap.size := blk_lt HX43.out; have hx149 : w10.cell? ⟨w4.heap.size, 0, none⟩ = some (.int .i64 a1_0) := (blk_cell HX43.out 0).trans rfl; have hx150 : w10.cell? ⟨w4.heap.size, 1, none⟩ = some (.int .i64 a1_1) := (blk_cell HX43.out 1).trans rfl; have hx151 : w10.cell? ⟨w4.heap.size, 2, none⟩ = some (.slice Az34 (cvL l1_2).length cz34) := (blk_cell HX43.out 2).trans rfl; have hl152 : w5.heap.size < w10.heap.size := blk_lt HX60.out; have hx153 : w10.cell? ⟨w5.heap.size, 0, none⟩ = some (.int .i64 r18) := (blk_cell HX60.out 0).trans rfl; have hx154 : w10.cell? ⟨w5.heap.size, 1, none⟩ = some (.int .i64 r19) := (blk_cell HX60.out 1).trans rfl; have hx155 : w10.cell? ⟨w5.heap.size, 2, none⟩ = some (.slice Az47 r20.length cz47) := (blk_cell HX60.out 2).trans rfl) | ((with_reducible refine gate_callee (f := 23) rfl ?_); refine goesL_ (some 68) rfl rfl Try.func23 (by kernel_rfl) rfl #[.agg #[.int .i64 r18, .int .i64 r19, .slice Az47 r20.length cz47], .int .i64 1] rfl (by (try simp only [List.map_toArray, List.map_cons, List.map_nil]); first | done | rfl | (simp only [List.length_drop, List.length_take]; rfl)) ?_; (with_reducible refine (laws_markGate.callsM k r18 r19 (fun k_ => w4.heap.size + 1 ≤ k_ ∧ k_ < w5.heap.size) (.slice Az47 r20.length cz47) r20 1 m156 ys157 w _ ?side1 ?side2 A158.out).mono ?_); (case side1 => repeat (first | (with_reducible first | exact HB.out | apply below_alloc | apply pw_below_drewN | apply below_drew1) | exact HB.out)); (case side2 => exact (by (with_reducible repeat (first | apply Kd.G_alloc | apply Kd.G_drewN | apply Kd.G_drew)); exact HO46.out)); rintro e w11 ⟨rfl, hm0_, hbk, hk⟩; refine ⟨_, rfl, ?_⟩; have n1_ := Aside0.mk (Kd.G_kept (by (with_reducible repeat (first | apply Kd.G_alloc | apply Kd.G_drewN | apply Kd.G_drew)); exact HO24.out) hk (fun k_ hk_ hs_ => by have := CC.out; have h1_ := hk_; have h2_ := hs_; omega)); have n2_ := Aside0.mk (Kd.G_kept (by (with_reducible repeat (first | apply Kd.G_alloc | apply Kd.G_drewN | apply Kd.G_drew)); exact HO33.out) hk (fun k_ hk_ hs_ => by have := CC.out; have h1_ := hk_; have h2_ := hs_; omega)); have n3_ := Aside0.mk (blk_kept (g := w.heap.size) (o := .cells #[.int .i64 a1_0, .int .i64 a1_1, .slice A1_2 l1_2.length c1_2] 24 (0, 0)) (by (with_reducible repeat (first | refine blk_drewN ?_ _ | refine blk_drew ?_ | refine blk_alloc ?_ _)); exact HX1.out) hk (fun hs_ => by have := CC.out; have h2_ := hs_; omega)); have n4_ := Aside0.mk (blk_kept (g := w3.heap.size) (o := .cells #[.int .i64 r18, .int .i64 r19, .slice Az25 r20.length cz25] 29 (0, 0)) (by (with_reducible repeat (first | refine blk_drewN ?_ _ | refine blk_drew ?_ | refine blk_alloc ?_ _)); exact HX30.out) hk (fun hs_ => by have := CC.out; have h2_ := hs_; omega)); have n5_ := Aside0.mk (blk_kept (g := w4.heap.size) (o := .cells #[.int .i64 a1_0, .int .i64 a1_1, .slice Az34 (cvL l1_2).length cz34] 29 (0, 0)) (by (with_reducible repeat (first | refine blk_drewN ?_ _ | refine blk_drew ?_ | refine blk_alloc ?_ _)); exact HX43.out) hk (fun hs_ => by have := CC.out; have h2_ := hs_; omega)); have n6_ := Aside0.mk (blk_kept (g := w5.heap.size) (o := .cells #[.int .i64 r18, .int .i64 r19, .slice Az47 r20.length cz47] 29 (0, 0)) (by (with_reducible repeat (first | refine blk_drewN ?_ _ | refine blk_drew ?_ | refine blk_alloc ?_ _)); exact HX60.out) hk (fun hs_ => by have := CC.out; have h2_ := hs_; omega)); have n7_ := Aside0.mk (hbk); have C159 : Aside0 (w10.heap.size ≤ w11.heap.size) := ⟨by have h_ := hk.1; (try simp at h_); omega⟩; have CCn_ := Aside0.mk (And.intro CC.out C159.out); clear CC; have CC := CCn_; clear CCn_; clear HO24; clear HO33; clear HX1; clear HX30; clear HX43; clear HX60; clear HB; clear hl140; clear hx141; clear hx142; clear hx143; clear hl144; clear hx145; clear hx146; clear hx147; clear hl148; clear hx149; clear hx150; clear hx151; clear hl152; clear hx153; clear hx154; clear hx155; have HO24 := n1_; clear n1_; have HO33 := n2_; clear n2_; have HX1 := n3_; clear n3_; have HX30 := n4_; clear n4_; have HX43 := n5_; clear n5_; have HX60 := n6_; clear n6_; have HB := n7_; clear n7_; clear HO46; have HO46 := Aside0.mk hm0_; (try clear hk); (try clear hbk); (try clear hm0_); have hl160 : w.heap.size < w11.heap.size := blk_lt HX1.out; have hx161 : w11.cell? ⟨w.heap.size, 0, none⟩ = some (.int .i64 a1_0) := (blk_cell HX1.out 0).trans rfl; have hx162 : w11.cell? ⟨w.heap.size, 1, none⟩ = some (.int .i64 a1_1) := (blk_cell HX1.out 1).trans rfl; have hx163 : w11.cell? ⟨w.heap.size, 2, none⟩ = some (.slice A1_2 l1_2.length c1_2) := (blk_cell HX1.out 2).trans rfl; have hl164 : w3.heap.size < w11.heap.size := blk_lt HX30.out; have hx165 : w11.cell? ⟨w3.heap.size, 0, none⟩ = some (.int .i64 r18) := (blk_cell HX30.out 0).trans rfl; have hx166 : w11.cell? ⟨w3.heap.size, 1, none⟩ = some (.int .i64 r19) := (blk_cell HX30.out 1).trans rfl; have hx167 : w11.cell? ⟨w3.heap.size, 2, none⟩ = some (.slice Az25 r20.length cz25) := (blk_cell HX30.out 2).trans rfl; have hl168 : w4.heap.size < w11.heap.size := blk_lt HX43.out; have hx169 : w11.cell? ⟨w4.heap.size, 0, none⟩ = some (.int .i64 a1_0) := (blk_cell HX43.out 0).trans rfl; have hx170 : w11.cell? ⟨w4.heap.size, 1, none⟩ = some (.int .i64 a1_1) := (blk_cell HX43.out 1).trans rfl; have hx171 : w11.cell? ⟨w4.heap.size, 2, none⟩ = some (.slice Az34 (cvL l1_2).length cz34) := (blk_cell HX43.out 2).trans rfl; have hl172 : w5.heap.size < w11.heap.size := blk_lt HX60.out; have hx173 : w11.cell? ⟨w5.heap.size, 0, none⟩ = some (.int .i64 r18) := (blk_cell HX60.out 0).trans rfl; have hx174 : w11.cell? ⟨w5.heap.size, 1, none⟩ = some (.int .i64 r19) := (blk_cell HX60.out 1).trans rfl; have hx175 : w11.cell? ⟨w5.heap.size, 2, none⟩ = some (.slice Az47 r20.length cz47) := (blk_cell HX60.out 2).trans rfl) | ((with_reducible refine gate_callee (f := 24) rfl ?_); refine goesL_ (some 71) rfl rfl Try.func24 (by kernel_rfl) rfl #[.agg #[.int .i64 r18, .int .i64 r19, .slice Az47 r20.length cz47], .int .i64 1] rfl (by (try simp only [List.map_toArray, List.map_cons, List.map_nil]); first | done | rfl | (simp only [List.length_drop, List.length_take]; rfl)) ?_; (with_reducible refine (calls_as ?eq_ (laws_heldGate.calls k r18 r19 Az47 cz47 ys157 1 m156 _ ?side1 ?side2 A176.out)).mono ?_); (case eq_ => rw [show ys157.length = r20.length from (Kd.G_reads' HO46.out).1.symm]); (case side1 => exact (Kd.G_reads' (n := r20.length) (A := Az47) (c := cz47) (by (with_reducible repeat (first | apply Kd.G_alloc | apply Kd.G_drewN | apply Kd.G_drew)); exact HO46.out)).2.2); (case side2 => exact Nat.le_trans (Nat.le_of_eq (Kd.G_reads' HO46.out).1.symm) (Kd.G_reads' HO46.out).2.1); rintro e w12 ⟨rfl, hb⟩; refine ⟨_, rfl, ?_⟩; have n1_ := Aside0.mk (Kd.G_below (by (with_reducible repeat (first | apply Kd.G_alloc | apply Kd.G_drewN | apply Kd.G_drew)); exact HO24.out) hb); have n2_ := Aside0.mk (Kd.G_below (by (with_reducible repeat (first | apply Kd.G_alloc | apply Kd.G_drewN | apply Kd.G_drew)); exact HO33.out) hb); have n3_ := Aside0.mk (Kd.G_below (by (with_reducible repeat (first | apply Kd.G_alloc | apply Kd.G_drewN | apply Kd.G_drew)); exact HO46.out) hb); have n4_ := Aside0.mk (blk_below (g := w.heap.size) (o := .cells #[.int .i64 a1_0, .int .i64 a1_1, .slice A1_2 l1_2.length c1_2] 24 (0, 0)) (by (with_reducible repeat (first | refine blk_drewN ?_ _ | refine blk_drew ?_ | refine blk_alloc ?_ _)); exact HX1.out) hb); have n5_ := Aside0.mk (blk_below (g := w3.heap.size) (o := .cells #[.int .i64 r18, .int .i64 r19, .slice Az25 r20.length cz25] 29 (0, 0)) (by (with_reducible repeat (first | refine blk_drewN ?_ _ | refine blk_drew ?_ | refine blk_alloc ?_ _)); exact HX30.out) hb); have n6_ := Aside0.mk (blk_below (g := w4.heap.size) (o := .cells #[.int .i64 a1_0, .int .i64 a1_1, .slice Az34 (cvL l1_2).length cz34] 29 (0, 0)) (by (with_reducible repeat (first | refine blk_drewN ?_ _ | refine blk_drew ?_ | refine blk_alloc ?_ _)); exact HX43.out) hb); have n7_ := Aside0.mk (blk_below (g := w5.heap.size) (o := .cells #[.int .i64 r18, .int .i64 r19, .slice Az47 r20.length cz47] 29 (0, 0)) (by (with_reducible repeat (first | refine blk_drewN ?_ _ | refine blk_drew ?_ | refine blk_alloc ?_ _)); exact HX60.out) hb); have n8_ := Aside0.mk (below_step (by repeat (first | (with_reducible first | exact HB.out | apply below_alloc | apply pw_below_drewN | apply below_drew1) | exact HB.out)) hb); have C177 : Aside0 (w11.heap.size ≤ w12.heap.size) := ⟨by have h_ := hb.size; (try simp at h_); omega⟩; have CCn_ := Aside0.mk (And.intro CC.out C177.out); clear CC; have CC := CCn_; clear CCn_; clear HO24; clear HO33; clear HO46; clear HX1; clear HX30; clear HX43; clear HX60; clear HB; clear hl160; clear hx161; clear hx162; clear hx163; clear hl164; clear hx165; clear hx166; clear hx167; clear hl168; clear hx169; clear hx170; clear hx171; clear hl172; clear hx173; clear hx174; clear hx175; have HO24 := n1_; clear n1_; have HO33 := n2_; clear n2_; have HO46 := n3_; clear n3_; have HX1 := n4_; clear n4_; have HX30 := n5_; clear n5_; have HX43 := n6_; clear n6_; have HX60 := n7_; clear n7_; have HB := n8_; clear n8_; (try clear hb); have hl178 : w.heap.size < w12.heap.size := blk_lt HX1.out; have hx179 : w12.cell? ⟨w.heap.size, 0, none⟩ = some (.int .i64 a1_0) := (blk_cell HX1.out 0).trans rfl; have hx180 : w12.cell? ⟨w.heap.size, 1, none⟩ = some (.int .i64 a1_1) := (blk_cell HX1.out 1).trans rfl; have hx181 : w12.cell? ⟨w.heap.size, 2, none⟩ = some (.slice A1_2 l1_2.length c1_2) := (blk_cell HX1.out 2).trans rfl; have hl182 : w3.heap.size < w12.heap.size := blk_lt HX30.out; have hx183 : w12.cell? ⟨w3.heap.size, 0, none⟩ = some (.int .i64 r18) := (blk_cell HX30.out 0).trans rfl; have hx184 : w12.cell? ⟨w3.heap.size, 1, none⟩ = some (.int .i64 r19) := (blk_cell HX30.out 1).trans rfl; have hx185 : w12.cell? ⟨w3.heap.size, 2, none⟩ = some (.slice Az25 r20.length cz25) := (blk_cell HX30.out 2).trans rfl; have hl186 : w4.heap.size < w12.heap.size := blk_lt HX43.out; have hx187 : w12.cell? ⟨w4.heap.size, 0, none⟩ = some (.int .i64 a1_0) := (blk_cell HX43.out 0).trans rfl; have hx188 : w12.cell? ⟨w4.heap.size, 1, none⟩ = some (.int .i64 a1_1) := (blk_cell HX43.out 1).trans rfl; have hx189 : w12.cell? ⟨w4.heap.size, 2, none⟩ = some (.slice Az34 (cvL l1_2).length cz34) := (blk_cell HX43.out 2).trans rfl; have hl190 : w5.heap.size < w12.heap.size := blk_lt HX60.out; have hx191 : w12.cell? ⟨w5.heap.size, 0, none⟩ = some (.int .i64 r18) := (blk_cell HX60.out 0).trans rfl; have hx192 : w12.cell? ⟨w5.heap.size, 1, none⟩ = some (.int .i64 r19) := (blk_cell HX60.out 1).trans rfl; have hx193 : w12.cell? ⟨w5.heap.size, 2, none⟩ = some (.slice Az47 r20.length cz47) := (blk_cell HX60.out 2).trans rfl) | ((with_reducible refine gate_callee (f := 14) rfl ?_); refine goesL_ (some 80) rfl rfl Try.func14 (by kernel_rfl) rfl #[.agg #[.int .i64 a1_0, .int .i64 a1_1, .slice A1_2 l1_2.length c1_2]] rfl (by (try simp only [List.map_toArray, List.map_cons, List.map_nil]); first | done | rfl | (simp only [List.length_drop, List.length_take]; rfl)) ?_; (with_reducible refine (laws_toGate.calls k a1_0 a1_1 _ _ l1_2 a1_0 a1_1 (cvL l1_2) _ ?side1 ?side2 A195.out).mono ?_); (case side1 => exact Kd.C_below HR1_2.out (by repeat (first | (with_reducible first | exact HB.out | apply below_alloc | apply pw_below_drewN | apply below_drew1) | exact HB.out))); (case side2 => exact HC1_2.out); rintro e w13 ⟨v100_, rfl, ho0_, hb⟩; refine ⟨_, rfl, ?_⟩; have n1_ := Aside0.mk (Kd.G_below (by (with_reducible repeat (first | apply Kd.G_alloc | apply Kd.G_drewN | apply Kd.G_drew)); exact HO24.out) hb); have n2_ := Aside0.mk (Kd.G_below (by (with_reducible repeat (first | apply Kd.G_alloc | apply Kd.G_drewN | apply Kd.G_drew)); exact HO33.out) hb); have n3_ := Aside0.mk (Kd.G_below (by (with_reducible repeat (first | apply Kd.G_alloc | apply Kd.G_drewN | apply Kd.G_drew)); exact HO46.out) hb); have n4_ := Aside0.mk (blk_below (g := w.heap.size) (o := .cells #[.int .i64 a1_0, .int .i64 a1_1, .slice A1_2 l1_2.length c1_2] 24 (0, 0)) (by (with_reducible repeat (first | refine blk_drewN ?_ _ | refine blk_drew ?_ | refine blk_alloc ?_ _)); exact HX1.out) hb); have n5_ := Aside0.mk (blk_below (g := w3.heap.size) (o := .cells #[.int .i64 r18, .int .i64 r19, .slice Az25 r20.length cz25] 29 (0, 0)) (by (with_reducible repeat (first | refine blk_drewN ?_ _ | refine blk_drew ?_ | refine blk_alloc ?_ _)); exact HX30.out) hb); have n6_ := Aside0.mk (blk_below (g := w4.heap.size) (o := .cells #[.int .i64 a1_0, .int .i64 a1_1, .slice Az34 (cvL l1_2).length cz34] 29 (0, 0)) (by (with_reducible repeat (first | refine blk_drewN ?_ _ | refine blk_drew ?_ | refine blk_alloc ?_ _)); exact HX43.out) hb); have n7_ := Aside0.mk (blk_below (g := w5.heap.size) (o := .cells #[.int .i64 r18, .int .i64 r19, .slice Az47 r20.length cz47] 29 (0, 0)) (by (with_reducible repeat (first | refine blk_drewN ?_ _ | refine blk_drew ?_ | refine blk_alloc ?_ _)); exact HX60.out) hb); have n8_ := Aside0.mk (below_step (by repeat (first | (with_reducible first | exact HB.out | apply below_alloc | apply pw_below_drewN | apply below_drew1) | exact HB.out)) hb); have C196 : Aside0 (w12.heap.size ≤ w13.heap.size) := ⟨by have h_ := hb.size; (try simp at h_); omega⟩; have CCn_ := Aside0.mk (And.intro CC.out C196.out); clear CC; have CC := CCn_; clear CCn_; clear HO24; clear HO33; clear HO46; clear HX1; clear HX30; clear HX43; clear HX60; clear HB; clear hl178; clear hx179; clear hx180; clear hx181; clear hl182; clear hx183; clear hx184; clear hx185; clear hl186; clear hx187; clear hx188; clear hx189; clear hl190; clear hx191; clear hx192; clear hx193; have HO24 := n1_; clear n1_; have HO33 := n2_; clear n2_; have HO46 := n3_; clear n3_; have HX1 := n4_; clear n4_; have HX30 := n5_; clear n5_; have HX43 := n6_; clear n6_; have HX60 := n7_; clear n7_; have HB := n8_; clear n8_; have HO197 := Aside0.mk (Kd.G_lower (base' := w.heap.size) (Kd.G_mono (Kd.G_bound ho0_) (ok' := fun k_ => w12.heap.size ≤ k_ ∧ k_ < w13.heap.size) (fun k_ hk_ => ⟨by have h_ := hk_.2.1; (try simp at h_); omega, hk_.2.2.1⟩)) (by have := CC.out; first | omega | (simp; done) | (simp; omega))); obtain ⟨Az198, cz198, ez198⟩ := Kd.G_slice HO197.out; subst ez198; (try clear hb); (try clear ho0_); have hl199 : w.heap.size < w13.heap.size := blk_lt HX1.out; have hx200 : w13.cell? ⟨w.heap.size, 0, none⟩ = some (.int .i64 a1_0) := (blk_cell HX1.out 0).trans rfl; have hx201 : w13.cell? ⟨w.heap.size, 1, none⟩ = some (.int .i64 a1_1) := (blk_cell HX1.out 1).trans rfl; have hx202 : w13.cell? ⟨w.heap.size, 2, none⟩ = some (.slice A1_2 l1_2.length c1_2) := (blk_cell HX1.out 2).trans rfl; have hl203 : w3.heap.size < w13.heap.size := blk_lt HX30.out; have hx204 : w13.cell? ⟨w3.heap.size, 0, none⟩ = some (.int .i64 r18) := (blk_cell HX30.out 0).trans rfl; have hx205 : w13.cell? ⟨w3.heap.size, 1, none⟩ = some (.int .i64 r19) := (blk_cell HX30.out 1).trans rfl; have hx206 : w13.cell? ⟨w3.heap.size, 2, none⟩ = some (.slice Az25 r20.length cz25) := (blk_cell HX30.out 2).trans rfl; have hl207 : w4.heap.size < w13.heap.size := blk_lt HX43.out; have hx208 : w13.cell? ⟨w4.heap.size, 0, none⟩ = some (.int .i64 a1_0) := (blk_cell HX43.out 0).trans rfl; have hx209 : w13.cell? ⟨w4.heap.size, 1, none⟩ = some (.int .i64 a1_1) := (blk_cell HX43.out 1).trans rfl; have hx210 : w13.cell? ⟨w4.heap.size, 2, none⟩ = some (.slice Az34 (cvL l1_2).length cz34) := (blk_cell HX43.out 2).trans rfl; have hl211 : w5.heap.size < w13.heap.size := blk_lt HX60.out; have hx212 : w13.cell? ⟨w5.heap.size, 0, none⟩ = some (.int .i64 r18) := (blk_cell HX60.out 0).trans rfl; have hx213 : w13.cell? ⟨w5.heap.size, 1, none⟩ = some (.int .i64 r19) := (blk_cell HX60.out 1).trans rfl; have hx214 : w13.cell? ⟨w5.heap.size, 2, none⟩ = some (.slice Az47 r20.length cz47) := (blk_cell HX60.out 2).trans rfl) | ((with_reducible refine gate_callee (f := 34) rfl ?_); refine goesL_ (some 81) rfl rfl Try.func34 (by kernel_rfl) rfl #[.int .i64 a0, .agg #[.int .i64 a1_0, .int .i64 a1_1, .slice Az198 (cvL l1_2).length cz198]] rfl (by (try simp only [List.map_toArray, List.map_cons, List.map_nil]); first | done | rfl | (simp only [List.length_drop, List.length_take]; rfl)) ?_; (with_reducible refine (impl_TidyGate.calls k a0 a1_0 a1_1 _ _ (cvL l1_2) r18 r19 r20 r21 _ ?side1 ?side2 A215.out).mono ?_); (case side1 => exact (Kd.G_reads' (n := (cvL l1_2).length) (A := Az198) (c := cz198) (by (with_reducible repeat (first | apply Kd.G_alloc | apply Kd.G_drewN | apply Kd.G_drew)); exact HO197.out)).2.2); (case side2 => exact (Kd.G_reads' (n := (cvL l1_2).length) (A := Az198) (c := cz198) HO197.out).2.1); rintro e w14 ⟨v100_, rfl, ho0_, hb⟩; refine ⟨_, rfl, ?_⟩; have n1_ := Aside0.mk (Kd.G_below (by (with_reducible repeat (first | apply Kd.G_alloc | apply Kd.G_drewN | apply Kd.G_drew)); exact HO24.out) hb); have n2_ := Aside0.mk (Kd.G_below (by (with_reducible repeat (first | apply Kd.G_alloc | apply Kd.G_drewN | apply Kd.G_drew)); exact HO33.out) hb); have n3_ := Aside0.mk (Kd.G_below (by (with_reducible repeat (first | apply Kd.G_alloc | apply Kd.G_drewN | apply Kd.G_drew)); exact HO46.out) hb); have n4_ := Aside0.mk (Kd.G_below (by (with_reducible repeat (first | apply Kd.G_alloc | apply Kd.G_drewN | apply Kd.G_drew)); exact HO197.out) hb); have n5_ := Aside0.mk (blk_below (g := w.heap.size) (o := .cells #[.int .i64 a1_0, .int .i64 a1_1, .slice A1_2 l1_2.length c1_2] 24 (0, 0)) (by (with_reducible repeat (first | refine blk_drewN ?_ _ | refine blk_drew ?_ | refine blk_alloc ?_ _)); exact HX1.out) hb); have n6_ := Aside0.mk (blk_below (g := w3.heap.size) (o := .cells #[.int .i64 r18, .int .i64 r19, .slice Az25 r20.length cz25] 29 (0, 0)) (by (with_reducible repeat (first | refine blk_drewN ?_ _ | refine blk_drew ?_ | refine blk_alloc ?_ _)); exact HX30.out) hb); have n7_ := Aside0.mk (blk_below (g := w4.heap.size) (o := .cells #[.int .i64 a1_0, .int .i64 a1_1, .slice Az34 (cvL l1_2).length cz34] 29 (0, 0)) (by (with_reducible repeat (first | refine blk_drewN ?_ _ | refine blk_drew ?_ | refine blk_alloc ?_ _)); exact HX43.out) hb); have n8_ := Aside0.mk (blk_below (g := w5.heap.size) (o := .cells #[.int .i64 r18, .int .i64 r19, .slice Az47 r20.length cz47] 29 (0, 0)) (by (with_reducible repeat (first | refine blk_drewN ?_ _ | refine blk_drew ?_ | refine blk_alloc ?_ _)); exact HX60.out) hb); have n9_ := Aside0.mk (below_step (by repeat (first | (with_reducible first | exact HB.out | apply below_alloc | apply pw_below_drewN | apply below_drew1) | exact HB.out)) hb); have C216 : Aside0 (w13.heap.size ≤ w14.heap.size) := ⟨by have h_ := hb.size; (try simp at h_); omega⟩; have CCn_ := Aside0.mk (And.intro CC.out C216.out); clear CC; have CC := CCn_; clear CCn_; clear HO24; clear HO33; clear HO46; clear HO197; clear HX1; clear HX30; clear HX43; clear HX60; clear HB; clear hl199; clear hx200; clear hx201; clear hx202; clear hl203; clear hx204; clear hx205; clear hx206; clear hl207; clear hx208; clear hx209; clear hx210; clear hl211; clear hx212; clear hx213; clear hx214; have HO24 := n1_; clear n1_; have HO33 := n2_; clear n2_; have HO46 := n3_; clear n3_; have HO197 := n4_; clear n4_; have HX1 := n5_; clear n5_; have HX30 := n6_; clear n6_; have HX43 := n7_; clear n7_; have HX60 := n8_; clear n8_; have HB := n9_; clear n9_; have HO217 := Aside0.mk (Kd.G_lower (base' := w.heap.size) (Kd.G_mono (Kd.G_bound ho0_) (ok' := fun k_ => w13.heap.size ≤ k_ ∧ k_ < w14.heap.size) (fun k_ hk_ => ⟨by have h_ := hk_.2.1; (try simp at h_); omega, hk_.2.2.1⟩)) (by have := CC.out; first | omega | (simp; done) | (simp; omega))); obtain ⟨Az218, cz218, ez218⟩ := Kd.G_slice HO217.out; subst ez218; (try clear hb); (try clear ho0_); have hl219 : w.heap.size < w14.heap.size := blk_lt HX1.out; have hx220 : w14.cell? ⟨w.heap.size, 0, none⟩ = some (.int .i64 a1_0) := (blk_cell HX1.out 0).trans rfl; have hx221 : w14.cell? ⟨w.heap.size, 1, none⟩ = some (.int .i64 a1_1) := (blk_cell HX1.out 1).trans rfl; have hx222 : w14.cell? ⟨w.heap.size, 2, none⟩ = some (.slice A1_2 l1_2.length c1_2) := (blk_cell HX1.out 2).trans rfl; have hl223 : w3.heap.size < w14.heap.size := blk_lt HX30.out; have hx224 : w14.cell? ⟨w3.heap.size, 0, none⟩ = some (.int .i64 r18) := (blk_cell HX30.out 0).trans rfl; have hx225 : w14.cell? ⟨w3.heap.size, 1, none⟩ = some (.int .i64 r19) := (blk_cell HX30.out 1).trans rfl; have hx226 : w14.cell? ⟨w3.heap.size, 2, none⟩ = some (.slice Az25 r20.length cz25) := (blk_cell HX30.out 2).trans rfl; have hl227 : w4.heap.size < w14.heap.size := blk_lt HX43.out; have hx228 : w14.cell? ⟨w4.heap.size, 0, none⟩ = some (.int .i64 a1_0) := (blk_cell HX43.out 0).trans rfl; have hx229 : w14.cell? ⟨w4.heap.size, 1, none⟩ = some (.int .i64 a1_1) := (blk_cell HX43.out 1).trans rfl; have hx230 : w14.cell? ⟨w4.heap.size, 2, none⟩ = some (.slice Az34 (cvL l1_2).length cz34) := (blk_cell HX43.out 2).trans rfl; have hl231 : w5.heap.size < w14.heap.size := blk_lt HX60.out; have hx232 : w14.cell? ⟨w5.heap.size, 0, none⟩ = some (.int .i64 r18) := (blk_cell HX60.out 0).trans rfl; have hx233 : w14.cell? ⟨w5.heap.size, 1, none⟩ = some (.int .i64 r19) := (blk_cell HX60.out 1).trans rfl; have hx234 : w14.cell? ⟨w5.heap.size, 2, none⟩ = some (.slice Az47 r20.length cz47) := (blk_cell HX60.out 2).trans rfl) | ((with_reducible refine gate_callee (f := 16) rfl ?_); refine goesL_ (some 86) rfl rfl Try.func16 (by kernel_rfl) rfl #[.agg #[.int .i64 r18, .int .i64 r19, .slice Az218 r20.length cz218], .agg #[.int .i64 r18, .int .i64 r19, .slice Az25 r20.length cz25]] rfl (by (try simp only [List.map_toArray, List.map_cons, List.map_nil]); first | done | rfl | (simp only [List.length_drop, List.length_take]; rfl)) ?_; (with_reducible refine (laws_eqGate.calls k r18 r19 _ _ r20 r18 r19 _ _ r20 true _ ?side1 ?side2 ?side3 ?side4 A236.out).mono ?_); (case side1 => exact (Kd.G_reads' (n := r20.length) (A := Az218) (c := cz218) (by (with_reducible repeat (first | apply Kd.G_alloc | apply Kd.G_drewN | apply Kd.G_drew)); exact HO217.out)).2.2); (case side2 => exact (Kd.G_reads' (n := r20.length) (A := Az218) (c := cz218) HO217.out).2.1); (case side3 => exact (Kd.G_reads' (n := r20.length) (A := Az25) (c := cz25) (by (with_reducible repeat (first | apply Kd.G_alloc | apply Kd.G_drewN | apply Kd.G_drew)); exact HO24.out)).2.2); (case side4 => exact (Kd.G_reads' (n := r20.length) (A := Az25) (c := cz25) HO24.out).2.1); rintro e w15 ⟨rfl, hb⟩; refine ⟨_, rfl, ?_⟩; have n1_ := Aside0.mk (Kd.G_below (by (with_reducible repeat (first | apply Kd.G_alloc | apply Kd.G_drewN | apply Kd.G_drew)); exact HO24.out) hb); have n2_ := Aside0.mk (Kd.G_below (by (with_reducible repeat (first | apply Kd.G_alloc | apply Kd.G_drewN | apply Kd.G_drew)); exact HO33.out) hb); have n3_ := Aside0.mk (Kd.G_below (by (with_reducible repeat (first | apply Kd.G_alloc | apply Kd.G_drewN | apply Kd.G_drew)); exact HO46.out) hb); have n4_ := Aside0.mk (Kd.G_below (by (with_reducible repeat (first | apply Kd.G_alloc | apply Kd.G_drewN | apply Kd.G_drew)); exact HO217.out) hb); have n5_ := Aside0.mk (blk_below (g := w.heap.size) (o := .cells #[.int .i64 a1_0, .int .i64 a1_1, .slice A1_2 l1_2.length c1_2] 24 (0, 0)) (by (with_reducible repeat (first | refine blk_drewN ?_ _ | refine blk_drew ?_ | refine blk_alloc ?_ _)); exact HX1.out) hb); have n6_ := Aside0.mk (blk_below (g := w3.heap.size) (o := .cells #[.int .i64 r18, .int .i64 r19, .slice Az25 r20.length cz25] 29 (0, 0)) (by (with_reducible repeat (first | refine blk_drewN ?_ _ | refine blk_drew ?_ | refine blk_alloc ?_ _)); exact HX30.out) hb); have n7_ := Aside0.mk (blk_below (g := w4.heap.size) (o := .cells #[.int .i64 a1_0, .int .i64 a1_1, .slice Az34 (cvL l1_2).length cz34] 29 (0, 0)) (by (with_reducible repeat (first | refine blk_drewN ?_ _ | refine blk_drew ?_ | refine blk_alloc ?_ _)); exact HX43.out) hb); have n8_ := Aside0.mk (blk_below (g := w5.heap.size) (o := .cells #[.int .i64 r18, .int .i64 r19, .slice Az47 r20.length cz47] 29 (0, 0)) (by (with_reducible repeat (first | refine blk_drewN ?_ _ | refine blk_drew ?_ | refine blk_alloc ?_ _)); exact HX60.out) hb); have n9_ := Aside0.mk (blk_below (g := w14.heap.size) (o := .cells #[.int .i64 r18, .int .i64 r19, .slice Az218 r20.length cz218] 29 (0, 0)) (by repeat (first | exact blk_new_at (by simp) | (with_reducible refine blk_drewN ?_ _) | (with_reducible refine blk_drew ?_) | (with_reducible refine blk_alloc ?_ _))) hb); have n10_ := Aside0.mk (below_step (by repeat (first | (with_reducible first | exact HB.out | apply below_alloc | apply pw_below_drewN | apply below_drew1) | exact HB.out)) hb); have C237 : Aside0 (w14.heap.size + 1 ≤ w15.heap.size) := ⟨by have h_ := hb.size; (try simp at h_); omega⟩; have CCn_ := Aside0.mk (And.intro CC.out C237.out); clear CC; have CC := CCn_; clear CCn_; clear HO24; clear HO33; clear HO46; clear HO217; clear HX1; clear HX30; clear HX43; clear HX60; clear HB; clear hl219; clear hx220; clear hx221; clear hx222; clear hl223; clear hx224; clear hx225; clear hx226; clear hl227; clear hx228; clear hx229; clear hx230; clear hl231; clear hx232; clear hx233; clear hx234; have HO24 := n1_; clear n1_; have HO33 := n2_; clear n2_; have HO46 := n3_; clear n3_; have HO217 := n4_; clear n4_; have HX1 := n5_; clear n5_; have HX30 := n6_; clear n6_; have HX43 := n7_; clear n7_; have HX60 := n8_; clear n8_; have HX235 := n9_; clear n9_; have HB := n10_; clear n10_; (try clear hb); have hl238 : w.heap.size < w15.heap.size := blk_lt HX1.out; have hx239 : w15.cell? ⟨w.heap.size, 0, none⟩ = some (.int .i64 a1_0) := (blk_cell HX1.out 0).trans rfl; have hx240 : w15.cell? ⟨w.heap.size, 1, none⟩ = some (.int .i64 a1_1) := (blk_cell HX1.out 1).trans rfl; have hx241 : w15.cell? ⟨w.heap.size, 2, none⟩ = some (.slice A1_2 l1_2.length c1_2) := (blk_cell HX1.out 2).trans rfl; have hl242 : w3.heap.size < w15.heap.size := blk_lt HX30.out; have hx243 : w15.cell? ⟨w3.heap.size, 0, none⟩ = some (.int .i64 r18) := (blk_cell HX30.out 0).trans rfl; have hx244 : w15.cell? ⟨w3.heap.size, 1, none⟩ = some (.int .i64 r19) := (blk_cell HX30.out 1).trans rfl; have hx245 : w15.cell? ⟨w3.heap.size, 2, none⟩ = some (.slice Az25 r20.length cz25) := (blk_cell HX30.out 2).trans rfl; have hl246 : w4.heap.size < w15.heap.size := blk_lt HX43.out; have hx247 : w15.cell? ⟨w4.heap.size, 0, none⟩ = some (.int .i64 a1_0) := (blk_cell HX43.out 0).trans rfl; have hx248 : w15.cell? ⟨w4.heap.size, 1, none⟩ = some (.int .i64 a1_1) := (blk_cell HX43.out 1).trans rfl; have hx249 : w15.cell? ⟨w4.heap.size, 2, none⟩ = some (.slice Az34 (cvL l1_2).length cz34) := (blk_cell HX43.out 2).trans rfl; have hl250 : w5.heap.size < w15.heap.size := blk_lt HX60.out; have hx251 : w15.cell? ⟨w5.heap.size, 0, none⟩ = some (.int .i64 r18) := (blk_cell HX60.out 0).trans rfl; have hx252 : w15.cell? ⟨w5.heap.size, 1, none⟩ = some (.int .i64 r19) := (blk_cell HX60.out 1).trans rfl; have hx253 : w15.cell? ⟨w5.heap.size, 2, none⟩ = some (.slice Az47 r20.length cz47) := (blk_cell HX60.out 2).trans rfl; have hl254 : w14.heap.size < w15.heap.size := blk_lt HX235.out; have hx255 : w15.cell? ⟨w14.heap.size, 0, none⟩ = some (.int .i64 r18) := (blk_cell HX235.out 0).trans rfl; have hx256 : w15.cell? ⟨w14.heap.size, 1, none⟩ = some (.int .i64 r19) := (blk_cell HX235.out 1).trans rfl; have hx257 : w15.cell? ⟨w14.heap.size, 2, none⟩ = some (.slice Az218 r20.length cz218) := (blk_cell HX235.out 2).trans rfl) | ((with_reducible refine gate_callee (f := 24) rfl ?_); refine goesL_ (some 95) rfl rfl Try.func24 (by kernel_rfl) rfl #[.agg #[.int .i64 r18, .int .i64 r19, .slice Az47 r20.length cz47], .int .i64 1] rfl (by (try simp only [List.map_toArray, List.map_cons, List.map_nil]); first | done | rfl | (simp only [List.length_drop, List.length_take]; rfl)) ?_; (with_reducible refine (calls_as ?eq_ (laws_heldGate.calls k r18 r19 Az47 cz47 ys157 1 m156 _ ?side1 ?side2 A258.out)).mono ?_); (case eq_ => rw [show ys157.length = r20.length from (Kd.G_reads' HO46.out).1.symm]); (case side1 => exact (Kd.G_reads' (n := r20.length) (A := Az47) (c := cz47) (by (with_reducible repeat (first | apply Kd.G_alloc | apply Kd.G_drewN | apply Kd.G_drew)); exact HO46.out)).2.2); (case side2 => exact Nat.le_trans (Nat.le_of_eq (Kd.G_reads' HO46.out).1.symm) (Kd.G_reads' HO46.out).2.1); rintro e w16 ⟨rfl, hb⟩; refine ⟨_, rfl, ?_⟩; have n1_ := Aside0.mk (Kd.G_below (by (with_reducible repeat (first | apply Kd.G_alloc | apply Kd.G_drewN | apply Kd.G_drew)); exact HO24.out) hb); have n2_ := Aside0.mk (Kd.G_below (by (with_reducible repeat (first | apply Kd.G_alloc | apply Kd.G_drewN | apply Kd.G_drew)); exact HO33.out) hb); have n3_ := Aside0.mk (Kd.G_below (by (with_reducible repeat (first | apply Kd.G_alloc | apply Kd.G_drewN | apply Kd.G_drew)); exact HO46.out) hb); have n4_ := Aside0.mk (Kd.G_below (by (with_reducible repeat (first | apply Kd.G_alloc | apply Kd.G_drewN | apply Kd.G_drew)); exact HO217.out) hb); have n5_ := Aside0.mk (blk_below (g := w.heap.size) (o := .cells #[.int .i64 a1_0, .int .i64 a1_1, .slice A1_2 l1_2.length c1_2] 24 (0, 0)) (by (with_reducible repeat (first | refine blk_drewN ?_ _ | refine blk_drew ?_ | refine blk_alloc ?_ _)); exact HX1.out) hb); have n6_ := Aside0.mk (blk_below (g := w3.heap.size) (o := .cells #[.int .i64 r18, .int .i64 r19, .slice Az25 r20.length cz25] 29 (0, 0)) (by (with_reducible repeat (first | refine blk_drewN ?_ _ | refine blk_drew ?_ | refine blk_alloc ?_ _)); exact HX30.out) hb); have n7_ := Aside0.mk (blk_below (g := w4.heap.size) (o := .cells #[.int .i64 a1_0, .int .i64 a1_1, .slice Az34 (cvL l1_2).length cz34] 29 (0, 0)) (by (with_reducible repeat (first | refine blk_drewN ?_ _ | refine blk_drew ?_ | refine blk_alloc ?_ _)); exact HX43.out) hb); have n8_ := Aside0.mk (blk_below (g := w5.heap.size) (o := .cells #[.int .i64 r18, .int .i64 r19, .slice Az47 r20.length cz47] 29 (0, 0)) (by (with_reducible repeat (first | refine blk_drewN ?_ _ | refine blk_drew ?_ | refine blk_alloc ?_ _)); exact HX60.out) hb); have n9_ := Aside0.mk (blk_below (g := w14.heap.size) (o := .cells #[.int .i64 r18, .int .i64 r19, .slice Az218 r20.length cz218] 29 (0, 0)) (by (with_reducible repeat (first | refine blk_drewN ?_ _ | refine blk_drew ?_ | refine blk_alloc ?_ _)); exact HX235.out) hb); have n10_ := Aside0.mk (below_step (by repeat (first | (with_reducible first | exact HB.out | apply below_alloc | apply pw_below_drewN | apply below_drew1) | exact HB.out)) hb); have C259 : Aside0 (w15.heap.size ≤ w16.heap.size) := ⟨by have h_ := hb.size; (try simp at h_); omega⟩; have CCn_ := Aside0.mk (And.intro CC.out C259.out); clear CC; have CC := CCn_; clear CCn_; clear HO24; clear HO33; clear HO46; clear HO217; clear HX1; clear HX30; clear HX43; clear HX60; clear HX235; clear HB; clear hl238; clear hx239; clear hx240; clear hx241; clear hl242; clear hx243; clear hx244; clear hx245; clear hl246; clear hx247; clear hx248; clear hx249; clear hl250; clear hx251; clear hx252; clear hx253; clear hl254; clear hx255; clear hx256; clear hx257; have HO24 := n1_; clear n1_; have HO33 := n2_; clear n2_; have HO46 := n3_; clear n3_; have HO217 := n4_; clear n4_; have HX1 := n5_; clear n5_; have HX30 := n6_; clear n6_; have HX43 := n7_; clear n7_; have HX60 := n8_; clear n8_; have HX235 := n9_; clear n9_; have HB := n10_; clear n10_; (try clear hb); have hl260 : w.heap.size < w16.heap.size := blk_lt HX1.out; have hx261 : w16.cell? ⟨w.heap.size, 0, none⟩ = some (.int .i64 a1_0) := (blk_cell HX1.out 0).trans rfl; have hx262 : w16.cell? ⟨w.heap.size, 1, none⟩ = some (.int .i64 a1_1) := (blk_cell HX1.out 1).trans rfl; have hx263 : w16.cell? ⟨w.heap.size, 2, none⟩ = some (.slice A1_2 l1_2.length c1_2) := (blk_cell HX1.out 2).trans rfl; have hl264 : w3.heap.size < w16.heap.size := blk_lt HX30.out; have hx265 : w16.cell? ⟨w3.heap.size, 0, none⟩ = some (.int .i64 r18) := (blk_cell HX30.out 0).trans rfl; have hx266 : w16.cell? ⟨w3.heap.size, 1, none⟩ = some (.int .i64 r19) := (blk_cell HX30.out 1).trans rfl; have hx267 : w16.cell? ⟨w3.heap.size, 2, none⟩ = some (.slice Az25 r20.length cz25) := (blk_cell HX30.out 2).trans rfl; have hl268 : w4.heap.size < w16.heap.size := blk_lt HX43.out; have hx269 : w16.cell? ⟨w4.heap.size, 0, none⟩ = some (.int .i64 a1_0) := (blk_cell HX43.out 0).trans rfl; have hx270 : w16.cell? ⟨w4.heap.size, 1, none⟩ = some (.int .i64 a1_1) := (blk_cell HX43.out 1).trans rfl; have hx271 : w16.cell? ⟨w4.heap.size, 2, none⟩ = some (.slice Az34 (cvL l1_2).length cz34) := (blk_cell HX43.out 2).trans rfl; have hl272 : w5.heap.size < w16.heap.size := blk_lt HX60.out; have hx273 : w16.cell? ⟨w5.heap.size, 0, none⟩ = some (.int .i64 r18) := (blk_cell HX60.out 0).trans rfl; have hx274 : w16.cell? ⟨w5.heap.size, 1, none⟩ = some (.int .i64 r19) := (blk_cell HX60.out 1).trans rfl; have hx275 : w16.cell? ⟨w5.heap.size, 2, none⟩ = some (.slice Az47 r20.length cz47) := (blk_cell HX60.out 2).trans rfl; have hl276 : w14.heap.size < w16.heap.size := blk_lt HX235.out; have hx277 : w16.cell? ⟨w14.heap.size, 0, none⟩ = some (.int .i64 r18) := (blk_cell HX235.out 0).trans rfl; have hx278 : w16.cell? ⟨w14.heap.size, 1, none⟩ = some (.int .i64 r19) := (blk_cell HX235.out 1).trans rfl; have hx279 : w16.cell? ⟨w14.heap.size, 2, none⟩ = some (.slice Az218 r20.length cz218) := (blk_cell HX235.out 2).trans rfl))
  go_ret
  exact ⟨rfl, by repeat (first | (with_reducible first | exact HB.out | apply below_alloc | apply pw_below_drewN | apply below_drew1) | exact HB.out)⟩

end Go.Proofs.Ytjnobnmjhpmpfaa.P

namespace Go.Proofs.Ytjnobnmjhpmpfaa.P
open Go.RowKit Go.Proofs.YtjnobnmjhpmpfaaW.PrintWords Go.Proofs.YtjnobnmjhpmpfaaW.PrintLast Go.Proofs.YtjnobnmjhpmpfaaW.PrintMore
attribute [local go_sem] max2_int min2_int max_two min_two max_three min_three max_four min_four
set_option linter.unusedVariables false
set_option linter.unusedSimpArgs false

section
variable {H : Type} {enc : TypeId × Value → H} {P : Program} {w : World} {base : Nat} {held : Bool} {α : Type}
/-- Whatever reads as a datum of type t (at this depth) is a value of kind d. -/
def OpensAt (enc : TypeId × Value → H) (P : Program) (w : World) (base : Nat) (held : Bool) (n : Nat) (t : TypeId) (d : Kd α) (wf : α → Prop) : Prop :=
  ∀ cs x, DataW.trod enc P w base (fun _ => true) held n t cs = some x → ∃ a, d.K w a cs ∧ wf a
theorem opens_int (n : Nat) {t : TypeId} {k : IntKind} (ht : P.underlying t = some (.int k)) : OpensAt enc P w base held n t (Kd.int k) (fun a => (Lit.int k a).wf = true) := fun cs x h => by
  obtain ⟨a, rfl, _, hw⟩ := DataW.trod_int ht h
  exact ⟨a, rfl, hw⟩
theorem list_upto {Q : Nat → α → Prop} : ∀ n, (∀ i, i < n → ∃ y, Q i y) → ∃ xs : List α, xs.length = n ∧ ∀ (i : Nat) (y : α), xs[i]? = some y → Q i y
  | 0, _ => ⟨[], rfl, fun i y h => by simp at h⟩
  | n + 1, h => by
    obtain ⟨xs, hl, hx⟩ := list_upto n (fun i hi => h i (by omega))
    obtain ⟨y, hy⟩ := h n (by omega)
    refine ⟨xs ++ [y], by simp [hl], fun i z hz => ?_⟩
    by_cases e : i < xs.length
    · rw [List.getElem?_append_left e] at hz
      exact hx i z hz
    · rw [List.getElem?_append_right (by omega)] at hz
      have : i - xs.length = 0 := by
        have := (List.getElem?_eq_some_iff.1 hz).1
        simp at this
        omega
      rw [this] at hz
      obtain rfl : y = z := by simpa using hz
      obtain rfl : i = n := by omega
      exact hy
theorem opens_slice (n : Nat) {t e : TypeId} {d : Kd α} {wf : α → Prop} (ht : P.underlying t = some (.slice e)) (hc : P.cellsOf e = d.sz) (he : OpensAt enc P w base held n e d wf) :
    OpensAt enc P w base held (n + 1) t (Kd.slice e d) (fun xs => xs.length ≤ 9223372036854775807 ∧ ∀ x ∈ xs, wf x) := fun cs x h => by
  rcases DataW.trod_slice ht h with ⟨rfl, _⟩ | ⟨a, len, cap, elems, rest, m, hn, rfl, _, _, hl, hm, hlen, hel, _, _⟩
  · exact ⟨[], ⟨none, 0, rfl, Nat.le_refl _, ⟨rfl, by simp, fun h => absurd h (by simp)⟩⟩, by simp⟩
  · obtain rfl : n = m := by omega
    obtain ⟨xs, hxl, hx⟩ := list_upto (Q := fun i y => (∃ c : List Value, c.length = d.sz ∧ d.K w y c ∧ ∀ j u, c[j]? = some u → w.cell? (a.add (i * d.sz + j)) = some u) ∧ wf y) len (fun i hi => by
      have h1 := hel i hi
      rw [List.getElem?_eq_getElem (by omega)] at h1
      obtain ⟨c, hc1, hc2⟩ := Option.bind_eq_some_iff.1 h1
      obtain ⟨y, hy, hw⟩ := he c _ hc2
      obtain ⟨_, hcl, hcc⟩ := World.cells?_some hc1
      refine ⟨y, ⟨c, by rw [hcl, hc], hy, fun j u hu => ?_⟩, hw⟩
      have hj : j < P.cellsOf e := by rw [← hcl]; exact (List.getElem?_eq_some_iff.1 hu).1
      have h2 := hcc j hj
      rw [hu, hc] at h2
      rw [← h2, Addr.add_add])
    subst hxl
    unfold maxLen at hm
    refine ⟨xs, ⟨some a, cap, rfl, hl, ⟨rfl, by omega, fun _ => ⟨a, rfl, fun j p hj => (hx j p hj).1⟩⟩⟩, by omega, fun y hy => ?_⟩
    obtain ⟨i, hi⟩ := List.mem_iff_getElem?.1 hy
    exact (hx i y hi).2
/-- At any depth. -/
theorem OpensAt.any {t : TypeId} {d : Kd α} {wf : α → Prop} (h : ∀ n, OpensAt enc P w base held n t d wf) {v : Value} {y : DataW H} {p : List MemPlace} (hv : DataW.Trod enc P w base (fun _ => true) held t v y p) : ∃ a, d.K w a v.cells.toList ∧ wf a := by
  obtain ⟨fuel, hf⟩ := hv
  exact h fuel _ _ hf
end

end Go.Proofs.Ytjnobnmjhpmpfaa.P

namespace Go.Proofs.Ytjnobnmjhpmpfaa.P
open Go.RowKit Go.Proofs.YtjnobnmjhpmpfaaW.PrintWords Go.Proofs.YtjnobnmjhpmpfaaW.PrintLast Go.Proofs.YtjnobnmjhpmpfaaW.PrintMore
attribute [local go_sem] max2_int min2_int max_two min_two max_three min_three max_four min_four
set_option linter.unusedVariables false
set_option linter.unusedSimpArgs false

inductive wfS24 : S24 → Prop
  | mk (x : S24) : ((Lit.int .i64 x.f0).wf = true) → ((Lit.int .i64 x.f1).wf = true) → (x.f2.length ≤ 9223372036854775807) → (∀ y_ ∈ x.f2, wfS24 y_) → wfS24 x
theorem list_of_24 {α : Type} {l : List α} (h : l.length = 3) : ∃ c0 c1 c2, l = [c0, c1, c2] := by
  match l, h with
  | [c0, c1, c2], _ => exact ⟨c0, c1, c2, rfl⟩
theorem opensS24 {H : Type} {enc : TypeId × Value → H} {w : World} {base : Nat} {held : Bool} : ∀ n, OpensAt enc Try.prog w base held n 24 k24 wfS24
  | 0 => fun cs x h => by simp [DataW.trod] at h
  | 1 => fun cs x h => by
    obtain ⟨xs, m, hm, _, hl, hlen, hf⟩ := DataW.trod_struct Try.underlying24 h
    obtain rfl : 0 = m := by omega
    rw [show Try.prog.cellsOf 24 = 3 from by kernel_rfl] at hl
    obtain ⟨c0, c1, c2, rfl⟩ := list_of_24 hl
    have h0 : DataW.trod enc Try.prog w base (fun _ => true) held (0) 2 [c0] = xs[0]? := by
        have q := hf 0 _ rfl
        simpa [show Try.prog.cellsOf 2 = 1 from by kernel_rfl] using q
    rw [List.getElem?_eq_getElem (by rw [hlen]; decide)] at h0
    obtain ⟨a0, e0, w0⟩ := (fun n => opens_int n Try.underlying2) (0) _ _ h0
    cases e0
    have h1 : DataW.trod enc Try.prog w base (fun _ => true) held (0) 2 [c1] = xs[1]? := by
        have q := hf 1 _ rfl
        simpa [show Try.prog.cellsOf 2 = 1 from by kernel_rfl] using q
    rw [List.getElem?_eq_getElem (by rw [hlen]; decide)] at h1
    obtain ⟨a1, e1, w1⟩ := (fun n => opens_int n Try.underlying2) (0) _ _ h1
    cases e1
    have h2 : DataW.trod enc Try.prog w base (fun _ => true) held (0) 22 [c2] = xs[2]? := by
        have q := hf 2 _ rfl
        simpa [show Try.prog.cellsOf 22 = 1 from by kernel_rfl] using q
    rw [List.getElem?_eq_getElem (by rw [hlen]; decide)] at h2
    exact absurd h2 (by simp [DataW.trod])
  | n + 2 => fun cs x h => by
    obtain ⟨xs, m, hm, _, hl, hlen, hf⟩ := DataW.trod_struct Try.underlying24 h
    obtain rfl : n + 1 = m := by omega
    rw [show Try.prog.cellsOf 24 = 3 from by kernel_rfl] at hl
    obtain ⟨c0, c1, c2, rfl⟩ := list_of_24 hl
    have h0 : DataW.trod enc Try.prog w base (fun _ => true) held (n + 1) 2 [c0] = xs[0]? := by
        have q := hf 0 _ rfl
        simpa [show Try.prog.cellsOf 2 = 1 from by kernel_rfl] using q
    rw [List.getElem?_eq_getElem (by rw [hlen]; decide)] at h0
    obtain ⟨a0, e0, w0⟩ := (fun n => opens_int n Try.underlying2) (n + 1) _ _ h0
    cases e0
    have h1 : DataW.trod enc Try.prog w base (fun _ => true) held (n + 1) 2 [c1] = xs[1]? := by
        have q := hf 1 _ rfl
        simpa [show Try.prog.cellsOf 2 = 1 from by kernel_rfl] using q
    rw [List.getElem?_eq_getElem (by rw [hlen]; decide)] at h1
    obtain ⟨a1, e1, w1⟩ := (fun n => opens_int n Try.underlying2) (n + 1) _ _ h1
    cases e1
    have h2 : DataW.trod enc Try.prog w base (fun _ => true) held (n + 1) 22 [c2] = xs[2]? := by
        have q := hf 2 _ rfl
        simpa [show Try.prog.cellsOf 22 = 1 from by kernel_rfl] using q
    rw [List.getElem?_eq_getElem (by rw [hlen]; decide)] at h2
    obtain ⟨a2, ⟨A2, n2, e2, l2, g2⟩, w2⟩ := (opens_slice n Try.underlying22 (by kernel_rfl) (opensS24 n)) _ _ h2
    cases e2
    exact ⟨⟨a0, a1, a2⟩, k24_mk w ⟨a0, a1, a2⟩ l2 g2, .mk _ w0 w1 w2.1 w2.2⟩

end Go.Proofs.Ytjnobnmjhpmpfaa.P

namespace Go.Proofs.Ytjnobnmjhpmpfaa.P
open Go.RowKit Go.Proofs.YtjnobnmjhpmpfaaW.PrintWords Go.Proofs.YtjnobnmjhpmpfaaW.PrintLast Go.Proofs.YtjnobnmjhpmpfaaW.PrintMore
attribute [local go_sem] max2_int min2_int max_two min_two max_three min_three max_four min_four
set_option linter.unusedVariables false
set_option linter.unusedSimpArgs false

def laws_FnExactTidyGate.Way0 (a0 : Int) (x1 : S24) : Prop := ∃ k : Nat, ∃ (s2 : Int), (laws_szGate.f k x1.f0 x1.f1 x1.f2 1048576 = some s2) ∧ (decide (s2 < 0) = true)
def laws_FnExactTidyGate.Way1 (a0 : Int) (x1 : S24) : Prop := ∃ k : Nat, ∃ (s2 : Int) (r18 : Int) (r19 : Int) (r20 : List (S29)) (r21 : Int) (m117 : Int) (ys118 : List (S29)) (m156 : Int) (ys157 : List (S29)), (laws_szGate.f k x1.f0 x1.f1 x1.f2 1048576 = some s2) ∧ (decide (s2 < 0) = false) ∧ (laws_toGate.f k x1.f0 x1.f1 x1.f2 = some (x1.f0, x1.f1, (cvL x1.f2))) ∧ (spec_TidyGate.f k a0 x1.f0 x1.f1 (cvL x1.f2) = some (r18, r19, r20, r21)) ∧ (laws_toGate.f k x1.f0 x1.f1 x1.f2 = some (x1.f0, x1.f1, (cvL x1.f2))) ∧ (impl_TidyGate.f k a0 x1.f0 x1.f1 (cvL x1.f2) = some (r18, r19, r20, r21)) ∧ (laws_eqGate.f k r18 r19 r20 r18 r19 r20 = some true) ∧ (laws_toGate.f k x1.f0 x1.f1 x1.f2 = some (x1.f0, x1.f1, (cvL x1.f2))) ∧ (laws_eqGate.f k x1.f0 x1.f1 (cvL x1.f2) x1.f0 x1.f1 (cvL x1.f2) = some true) ∧ (laws_markGate.f k x1.f0 x1.f1 (cvL x1.f2) 1 = some (m117, ys118)) ∧ (decide (m117 < 0) = false) ∧ (laws_eqGate.f k r18 r19 r20 r18 r19 r20 = some true) ∧ (laws_markGate.f k r18 r19 r20 1 = some (m156, ys157)) ∧ (laws_heldGate.f k r18 r19 ys157 1 = some m156) ∧ (decide (m156 < 0) = false) ∧ (laws_toGate.f k x1.f0 x1.f1 x1.f2 = some (x1.f0, x1.f1, (cvL x1.f2))) ∧ (impl_TidyGate.f k a0 x1.f0 x1.f1 (cvL x1.f2) = some (r18, r19, r20, r21)) ∧ (laws_eqGate.f k r18 r19 r20 r18 r19 r20 = some true) ∧ (laws_heldGate.f k r18 r19 ys157 1 = some m156) ∧ (decide (m156 < 0) = false)
def laws_FnExactTidyGate.Pure : Prop := ∀ (a0 : Int) (x1 : S24), ((Lit.int .i64 a0).wf = true) → wfS24 x1 → laws_FnExactTidyGate.Way0 a0 x1 ∨ laws_FnExactTidyGate.Way1 a0 x1
theorem laws_FnExactTidyGate.walk (P : laws_FnExactTidyGate.Pure) (a0 : Int) (x1 : S24) (A1_2 : Option Addr) (c1_2 : Nat) (w : World) (hr1_2 : Kd.C k24 w A1_2 x1.f2.length x1.f2) (hc1_2 : x1.f2.length ≤ c1_2) (wf0 : ((Lit.int .i64 a0).wf = true)) (wf1 : wfS24 x1) :
    Calls Try.prog 9 #[.int .i64 a0, .agg #[.int .i64 x1.f0, .int .i64 x1.f1, .slice A1_2 x1.f2.length c1_2]] w fun e w' => e = .returned (.bool true) ∧ Below w.heap.size w w' := by
  rcases P a0 x1 wf0 wf1 with h | h
  · obtain ⟨k, s2, A3, t9⟩ := h
    exact laws_FnExactTidyGate.way0 k a0 x1.f0 x1.f1 _ _ x1.f2 s2 w hr1_2 hc1_2 A3 t9
  · obtain ⟨k, s2, r18, r19, r20, r21, m117, ys118, m156, ys157, A3, t9, A10, A22, A31, A44, A61, A79, A99, A119, t137, A138, A158, A176, t194, A195, A215, A236, A258, t280⟩ := h
    exact laws_FnExactTidyGate.way1 k a0 x1.f0 x1.f1 _ _ x1.f2 s2 r18 r19 r20 r21 m117 ys118 m156 ys157 w hr1_2 hc1_2 A3 t9 A10 A22 A31 A44 A61 A79 A99 A119 t137 A138 A158 A176 t194 A195 A215 A236 A258 t280

end Go.Proofs.Ytjnobnmjhpmpfaa.P

namespace Go.Proofs.Ytjnobnmjhpmpfaa.P
open Go.RowKit Go.Proofs.YtjnobnmjhpmpfaaW.PrintWords Go.Proofs.YtjnobnmjhpmpfaaW.PrintLast Go.Proofs.YtjnobnmjhpmpfaaW.PrintMore
attribute [local go_sem] max2_int min2_int max_two min_two max_three min_three max_four min_four
set_option linter.unusedVariables false
set_option linter.unusedSimpArgs false

/-! ### laws_eqInt64S: function 27 -/
end Go.Proofs.Ytjnobnmjhpmpfaa.P

namespace Go.Proofs.Ytjnobnmjhpmpfaa.P
open Go.RowKit Go.Proofs.YtjnobnmjhpmpfaaW.PrintWords Go.Proofs.YtjnobnmjhpmpfaaW.PrintLast Go.Proofs.YtjnobnmjhpmpfaaW.PrintMore
attribute [local go_sem] max2_int min2_int max_two min_two max_three min_three max_four min_four
set_option linter.unusedVariables false
set_option linter.unusedSimpArgs false

/-! ### laws_toInt64S: function 31 -/
end Go.Proofs.Ytjnobnmjhpmpfaa.P

namespace Go.Proofs.Ytjnobnmjhpmpfaa.P
open Go.RowKit Go.Proofs.YtjnobnmjhpmpfaaW.PrintWords Go.Proofs.YtjnobnmjhpmpfaaW.PrintLast Go.Proofs.YtjnobnmjhpmpfaaW.PrintMore
attribute [local go_sem] max2_int min2_int max_two min_two max_three min_three max_four min_four
set_option linter.unusedVariables false
set_option linter.unusedSimpArgs false

/-! ### laws_szInt64S: function 91 -/
end Go.Proofs.Ytjnobnmjhpmpfaa.P

namespace Go.Proofs.Ytjnobnmjhpmpfaa.P
open Go.RowKit Go.Proofs.YtjnobnmjhpmpfaaW.PrintWords Go.Proofs.YtjnobnmjhpmpfaaW.PrintLast Go.Proofs.YtjnobnmjhpmpfaaW.PrintMore
attribute [local go_sem] max2_int min2_int max_two min_two max_three min_three max_four min_four
set_option linter.unusedVariables false
set_option linter.unusedSimpArgs false

/-! ### laws_szInt64SS: function 77 -/
end Go.Proofs.Ytjnobnmjhpmpfaa.P

namespace Go.Proofs.Ytjnobnmjhpmpfaa.P
open Go.RowKit Go.Proofs.YtjnobnmjhpmpfaaW.PrintWords Go.Proofs.YtjnobnmjhpmpfaaW.PrintLast Go.Proofs.YtjnobnmjhpmpfaaW.PrintMore
attribute [local go_sem] max2_int min2_int max_two min_two max_three min_three max_four min_four
set_option linter.unusedVariables false
set_option linter.unusedSimpArgs false

/-! ### laws_toInt64SS: function 79 -/
end Go.Proofs.Ytjnobnmjhpmpfaa.P

namespace Go.Proofs.Ytjnobnmjhpmpfaa.P
open Go.RowKit Go.Proofs.YtjnobnmjhpmpfaaW.PrintWords Go.Proofs.YtjnobnmjhpmpfaaW.PrintLast Go.Proofs.YtjnobnmjhpmpfaaW.PrintMore
attribute [local go_sem] max2_int min2_int max_two min_two max_three min_three max_four min_four
set_option linter.unusedVariables false
set_option linter.unusedSimpArgs false

/-! ### laws_eqInt64SS: function 81 -/
end Go.Proofs.Ytjnobnmjhpmpfaa.P

namespace Go.Proofs.Ytjnobnmjhpmpfaa.P
open Go.RowKit Go.Proofs.YtjnobnmjhpmpfaaW.PrintWords Go.Proofs.YtjnobnmjhpmpfaaW.PrintLast Go.Proofs.YtjnobnmjhpmpfaaW.PrintMore
attribute [local go_sem] max2_int min2_int max_two min_two max_three min_three max_four min_four
set_option linter.unusedVariables false
set_option linter.unusedSimpArgs false

/-! ### spec_l00Rises: function 101 -/
end Go.Proofs.Ytjnobnmjhpmpfaa.P

namespace Go.Proofs.Ytjnobnmjhpmpfaa.P
open Go.RowKit Go.Proofs.YtjnobnmjhpmpfaaW.PrintWords Go.Proofs.YtjnobnmjhpmpfaaW.PrintLast Go.Proofs.YtjnobnmjhpmpfaaW.PrintMore
attribute [local go_sem] max2_int min2_int max_two min_two max_three min_three max_four min_four
set_option linter.unusedVariables false
set_option linter.unusedSimpArgs false

/-! ### spec_l01Group: function 92 -/
end Go.Proofs.Ytjnobnmjhpmpfaa.P

namespace Go.Proofs.Ytjnobnmjhpmpfaa.P
open Go.RowKit Go.Proofs.YtjnobnmjhpmpfaaW.PrintWords Go.Proofs.YtjnobnmjhpmpfaaW.PrintLast Go.Proofs.YtjnobnmjhpmpfaaW.PrintMore
attribute [local go_sem] max2_int min2_int max_two min_two max_three min_three max_four min_four
set_option linter.unusedVariables false
set_option linter.unusedSimpArgs false

/-! ### impl_isGroup: function 95 -/
end Go.Proofs.Ytjnobnmjhpmpfaa.P

namespace Go.Proofs.Ytjnobnmjhpmpfaa.P
open Go.RowKit Go.Proofs.YtjnobnmjhpmpfaaW.PrintWords Go.Proofs.YtjnobnmjhpmpfaaW.PrintLast Go.Proofs.YtjnobnmjhpmpfaaW.PrintMore
attribute [local go_sem] max2_int min2_int max_two min_two max_three min_three max_four min_four
set_option linter.unusedVariables false
set_option linter.unusedSimpArgs false

def before (l : List Int) (i : Nat) : Option Int := if i = 0 then none else l[i - 1]?
end Go.Proofs.Ytjnobnmjhpmpfaa.P

namespace Go.Proofs.Ytjnobnmjhpmpfaa.P
open Go.RowKit Go.Proofs.YtjnobnmjhpmpfaaW.PrintWords Go.Proofs.YtjnobnmjhpmpfaaW.PrintLast Go.Proofs.YtjnobnmjhpmpfaaW.PrintMore
attribute [local go_sem] max2_int min2_int max_two min_two max_three min_three max_four min_four
set_option linter.unusedVariables false
set_option linter.unusedSimpArgs false

end Go.Proofs.Ytjnobnmjhpmpfaa.P

namespace Go.Proofs.Ytjnobnmjhpmpfaa.P
open Go.RowKit Go.Proofs.YtjnobnmjhpmpfaaW.PrintWords Go.Proofs.YtjnobnmjhpmpfaaW.PrintLast Go.Proofs.YtjnobnmjhpmpfaaW.PrintMore
attribute [local go_sem] max2_int min2_int max_two min_two max_three min_three max_four min_four
set_option linter.unusedVariables false
set_option linter.unusedSimpArgs false

/-- What holds from some number of rounds on. -/
def From (P : Nat → Prop) : Prop := ∃ K, ∀ k, K ≤ k → P k
theorem From.and {P Q : Nat → Prop} (hp : From P) (hq : From Q) : From fun k => P k ∧ Q k := by
  obtain ⟨K, hK⟩ := hp
  obtain ⟨L, hL⟩ := hq
  exact ⟨max K L, fun k h => ⟨hK k (by omega), hL k (by omega)⟩⟩
theorem From.now {P : Nat → Prop} (h : From P) : ∃ k, P k := by
  obtain ⟨K, hK⟩ := h
  exact ⟨K, hK K (Nat.le_refl _)⟩
end Go.Proofs.Ytjnobnmjhpmpfaa.P

namespace Go.Proofs.Ytjnobnmjhpmpfaa.P
open Go.RowKit Go.Proofs.YtjnobnmjhpmpfaaW.PrintWords Go.Proofs.YtjnobnmjhpmpfaaW.PrintLast Go.Proofs.YtjnobnmjhpmpfaaW.PrintMore
attribute [local go_sem] max2_int min2_int max_two min_two max_three min_three max_four min_four
set_option linter.unusedVariables false
set_option linter.unusedSimpArgs false

mutual
/-- A gate's kids, marked from m on. -/
def mkT : Int → S29 → S29
  | m, ⟨_, _, l⟩ => ⟨m, m + 1, mkL (m + 2) l⟩
def mkL : Int → List S29 → List S29
  | _, [] => []
  | m, x :: l => mkT m x :: mkL (m + 2 + 2 * (mT x : Int)) l
end
theorem mkT_parts (m : Int) (x : S29) : mkT m x = ⟨m, m + 1, mkL (m + 2) x.f2⟩ := by cases x; simp only [mkT]
theorem mkL_cons (m : Int) (x : S29) (l : List S29) : mkL m (x :: l) = ⟨m, m + 1, mkL (m + 2) x.f2⟩ :: mkL (m + 2 + 2 * (mT x : Int)) l := by rw [← mkT_parts]; simp only [mkL]
theorem rdT_mid (pre r : List S29) (y : S29) : rd_T29 (pre ++ y :: r) (pre.length : Int) = y := by simp [rd_T29]
theorem mL_cons (x : S29) (l : List S29) : mL (x :: l) = 1 + mT x + mL l := by simp only [mL]
theorem markGS_ev : ∀ (n : Nat) (rest : List S29), mL rest ≤ n → n ≤ 1048576 → ∀ (pre : List S29) (m : Int), 0 ≤ m → m + 2 * (mL rest : Int) ≤ 4611686018427387904 → pre.length + rest.length ≤ 4611686018427387904 → Ev (fun k => laws_markGateS.l0 k (pre ++ rest) m (pre.length : Int)) (m + 2 * (mL rest : Int), pre ++ mkL m rest) := by
  intro n
  induction n with
  | zero =>
    intro rest hn hm pre m h0 h1 hp
    cases rest with
    | cons x r => rw [mL_cons] at hn; omega
    | nil =>
      refine Ev.step (f := fun _ => some (m, pre ++ [])) (fun k => ?_) ?_
      · simp only [laws_markGateS.l0]
        rw [if_neg (show ¬ ((pre.length : Int) < ((pre ++ ([] : List S29)).length : Int)) by simp)]
      · rw [show m + 2 * ((mL ([] : List S29) : Nat) : Int) = m by simp [mL], show mkL m [] = [] by simp only [mkL]]
        exact Ev.now _
  | succ n ih =>
    intro rest hn hm pre m h0 h1 hp
    cases rest with
    | nil =>
      refine Ev.step (f := fun _ => some (m, pre ++ [])) (fun k => ?_) ?_
      · simp only [laws_markGateS.l0]
        rw [if_neg (show ¬ ((pre.length : Int) < ((pre ++ ([] : List S29)).length : Int)) by simp)]
      · rw [show m + 2 * ((mL ([] : List S29) : Nat) : Int) = m by simp [mL], show mkL m [] = [] by simp only [mkL]]
        exact Ev.now _
    | cons x r =>
      rw [mL_cons] at hn h1
      rw [List.length_cons] at hp
      have hk := mT_kids x
      have hlx := mL_len x.f2
      have e1 : Ev (fun k => laws_markGateS.f k x.f2 (m + 2)) (m + 2 + 2 * (mL x.f2 : Int), mkL (m + 2) x.f2) :=
        Ev.step (f := fun k => laws_markGateS.l0 k x.f2 (m + 2) 0) (fun k => by simp only [laws_markGateS.f]) (ih x.f2 (by omega) (by omega) [] (m + 2) (by omega) (by omega) (by rw [List.length_nil]; omega))
      refine Ev.step (f := fun k => (laws_markGateS.f k x.f2 (m + 2)).bind fun t => laws_markGateS.l0 k ((pre ++ x :: r).set pre.length ⟨m, m + 1, t.2⟩) t.1 ((pre.length + 1 : Nat) : Int)) (fun k => ?_) (Ev.bind e1 ?_)
      · simp only [laws_markGateS.l0]
        rw [if_pos (by simp; omega), if_pos (by omega), rdT_mid, wr (x := m + 1) (by omega) (by omega), wr (x := m + 1 + 1) (by omega) (by omega), wr (x := (pre.length : Int) + 1) (by omega) (by omega), Int.toNat_natCast, show m + 1 + 1 = m + 2 by omega]
        rfl
      · dsimp only
        have e : (pre ++ x :: r).set pre.length (⟨m, m + 1, mkL (m + 2) x.f2⟩ : S29) = (pre ++ [⟨m, m + 1, mkL (m + 2) x.f2⟩]) ++ r := by
          rw [List.set_append_right _ _ (Nat.le_refl _), Nat.sub_self, List.set_cons_zero, List.append_assoc]; rfl
        have hl := mL_len r
        have h3 := ih r (by omega) (by omega) (pre ++ [⟨m, m + 1, mkL (m + 2) x.f2⟩]) (m + 2 + 2 * (mL x.f2 : Int)) (by omega) (by omega) (by rw [List.length_append, List.length_singleton]; omega)
        rw [List.length_append, List.length_singleton] at h3
        rw [e, mkL_cons, mL_cons, hk, show m + 2 * (((1 + mL x.f2 + mL r : Nat)) : Int) = m + 2 + 2 * (mL x.f2 : Int) + 2 * (mL r : Int) by omega, show pre ++ (⟨m, m + 1, mkL (m + 2) x.f2⟩ : S29) :: mkL (m + 2 + 2 * ((mL x.f2 : Nat) : Int)) r = (pre ++ [⟨m, m + 1, mkL (m + 2) x.f2⟩]) ++ mkL (m + 2 + 2 * ((mL x.f2 : Nat) : Int)) r by rw [List.append_assoc]; rfl]
        exact h3
theorem markGate_ev (a b : Int) (l : List S29) (h : mL l ≤ 1048576) : Ev (fun k => laws_markGate.f k a b l 1) (1 + 2 * (mL l : Int), mkL 1 l) :=
  Ev.step (f := fun k => laws_markGateS.l0 k l 1 0) (fun k => by simp only [laws_markGate.f, laws_markGateS.f]) (markGS_ev 1048576 l h (Nat.le_refl _) [] 1 (by omega) (by omega) (by have := mL_len l; rw [List.length_nil]; omega))
theorem heldGS_ev : ∀ (n : Nat) (rest : List S29), mL rest ≤ n → n ≤ 1048576 → ∀ (pre : List S29) (m : Int), 0 ≤ m → m + 2 * (mL rest : Int) ≤ 4611686018427387904 → pre.length + rest.length ≤ 4611686018427387904 → Ev (fun k => laws_heldGateS.l0 k (pre ++ mkL m rest) m (pre.length : Int)) (m + 2 * (mL rest : Int)) := by
  intro n
  induction n with
  | zero =>
    intro rest hn hm pre m h0 h1 hp
    cases rest with
    | cons x r => rw [mL_cons] at hn; omega
    | nil =>
      refine Ev.step (f := fun _ => some m) (fun k => ?_) ?_
      · rw [show mkL m ([] : List S29) = [] by simp only [mkL]]
        simp only [laws_heldGateS.l0]
        rw [if_neg (show ¬ ((pre.length : Int) < ((pre ++ ([] : List S29)).length : Int)) by simp)]
      · rw [show m + 2 * ((mL ([] : List S29) : Nat) : Int) = m by simp [mL]]
        exact Ev.now _
  | succ n ih =>
    intro rest hn hm pre m h0 h1 hp
    cases rest with
    | nil =>
      refine Ev.step (f := fun _ => some m) (fun k => ?_) ?_
      · rw [show mkL m ([] : List S29) = [] by simp only [mkL]]
        simp only [laws_heldGateS.l0]
        rw [if_neg (show ¬ ((pre.length : Int) < ((pre ++ ([] : List S29)).length : Int)) by simp)]
      · rw [show m + 2 * ((mL ([] : List S29) : Nat) : Int) = m by simp [mL]]
        exact Ev.now _
    | cons x r =>
      rw [mL_cons] at hn h1
      rw [List.length_cons] at hp
      have hk := mT_kids x
      have hlx := mL_len x.f2
      have e1 : Ev (fun k => laws_heldGateS.f k (mkL (m + 2) x.f2) (m + 2)) (m + 2 + 2 * (mL x.f2 : Int)) :=
        Ev.step (f := fun k => laws_heldGateS.l0 k (mkL (m + 2) x.f2) (m + 2) 0) (fun k => by simp only [laws_heldGateS.f]) (ih x.f2 (by omega) (by omega) [] (m + 2) (by omega) (by omega) (by rw [List.length_nil]; omega))
      rw [mkL_cons]
      refine Ev.step (f := fun k => (laws_heldGateS.f k (mkL (m + 2) x.f2) (m + 2)).bind fun t => if t < 0 then some (-1) else laws_heldGateS.l0 k (pre ++ ⟨m, m + 1, mkL (m + 2) x.f2⟩ :: mkL (m + 2 + 2 * (mT x : Int)) r) t ((pre.length + 1 : Nat) : Int)) (fun k => ?_) (Ev.bind e1 ?_)
      · simp only [laws_heldGateS.l0]
        rw [if_pos (by simp; omega), if_pos (by omega), rdT_mid]
        dsimp only
        rw [if_pos rfl, wr (x := m + 1) (by omega) (by omega), if_pos rfl, wr (x := m + 1 + 1) (by omega) (by omega), wr (x := (pre.length : Int) + 1) (by omega) (by omega), show m + 1 + 1 = m + 2 by omega]
        rfl
      · simp only [if_neg (show ¬ (m + 2 + 2 * ((mL x.f2 : Nat) : Int) < 0) by omega)]
        have hl := mL_len r
        have h3 := ih r (by omega) (by omega) (pre ++ [⟨m, m + 1, mkL (m + 2) x.f2⟩]) (m + 2 + 2 * (mL x.f2 : Int)) (by omega) (by omega) (by rw [List.length_append, List.length_singleton]; omega)
        rw [List.length_append, List.length_singleton] at h3
        rw [mL_cons, hk, show m + 2 * (((1 + mL x.f2 + mL r : Nat)) : Int) = m + 2 + 2 * (mL x.f2 : Int) + 2 * (mL r : Int) by omega, show pre ++ (⟨m, m + 1, mkL (m + 2) x.f2⟩ : S29) :: mkL (m + 2 + 2 * ((mL x.f2 : Nat) : Int)) r = (pre ++ [⟨m, m + 1, mkL (m + 2) x.f2⟩]) ++ mkL (m + 2 + 2 * ((mL x.f2 : Nat) : Int)) r by rw [List.append_assoc]; rfl]
        exact h3
theorem heldGate_ev (a b : Int) (l : List S29) (h : mL l ≤ 1048576) : Ev (fun k => laws_heldGate.f k a b (mkL 1 l) 1) (1 + 2 * (mL l : Int)) := by
  unfold laws_heldGate.f
  refine Ev.bind (Ev.step (f := fun k => laws_heldGateS.l0 k (mkL 1 l) 1 0) (fun k => by simp only [laws_heldGateS.f]) (heldGS_ev 1048576 l h (Nat.le_refl _) [] 1 (by omega) (by omega) (by have := mL_len l; rw [List.length_nil]; omega))) ?_
  simp only [if_neg (show ¬ (1 + 2 * ((mL l : Nat) : Int) < 0) by omega)]
  exact Ev.now _

end Go.Proofs.Ytjnobnmjhpmpfaa.P

namespace Go.Proofs.Ytjnobnmjhpmpfaa.P
open Go.RowKit Go.Proofs.YtjnobnmjhpmpfaaW.PrintWords Go.Proofs.YtjnobnmjhpmpfaaW.PrintLast Go.Proofs.YtjnobnmjhpmpfaaW.PrintMore
attribute [local go_sem] max2_int min2_int max_two min_two max_three min_three max_four min_four
set_option linter.unusedVariables false
set_option linter.unusedSimpArgs false

/-! ### spec_l02Dual: function 52 (by hand) -/
end Go.Proofs.Ytjnobnmjhpmpfaa.P

namespace Go.Proofs.Ytjnobnmjhpmpfaa.P
open Go.RowKit Go.Proofs.YtjnobnmjhpmpfaaW.PrintWords Go.Proofs.YtjnobnmjhpmpfaaW.PrintLast Go.Proofs.YtjnobnmjhpmpfaaW.PrintMore
attribute [local go_sem] max2_int min2_int max_two min_two max_three min_three max_four min_four
set_option linter.unusedVariables false
set_option linter.unusedSimpArgs false

/-! ### spec_DualGate: function 21 (by hand) -/
end Go.Proofs.Ytjnobnmjhpmpfaa.P

namespace Go.Proofs.Ytjnobnmjhpmpfaa.P
open Go.RowKit Go.Proofs.YtjnobnmjhpmpfaaW.PrintWords Go.Proofs.YtjnobnmjhpmpfaaW.PrintLast Go.Proofs.YtjnobnmjhpmpfaaW.PrintMore
attribute [local go_sem] max2_int min2_int max_two min_two max_three min_three max_four min_four
set_option linter.unusedVariables false
set_option linter.unusedSimpArgs false

/-! ### impl_DualGate: function 22 (by hand) -/
end Go.Proofs.Ytjnobnmjhpmpfaa.P

namespace Go.Proofs.Ytjnobnmjhpmpfaa.P
open Go.RowKit Go.Proofs.YtjnobnmjhpmpfaaW.PrintWords Go.Proofs.YtjnobnmjhpmpfaaW.PrintLast Go.Proofs.YtjnobnmjhpmpfaaW.PrintMore
attribute [local go_sem] max2_int min2_int max_two min_two max_three min_three max_four min_four
set_option linter.unusedVariables false
set_option linter.unusedSimpArgs false

mutual
/-- What mapped answers: the leaves and the inner gates by functions, a state handed from leaf to leaf. -/
def mapT {σ : Type} (lv : σ → Int → S29 × σ) (iv : Int → List S29 → S29) : σ → S29 → S29 × σ
  | s, ⟨a, b, l⟩ => if l.isEmpty then lv s a else (iv b (mapL lv iv s l).1, (mapL lv iv s l).2)
def mapL {σ : Type} (lv : σ → Int → S29 × σ) (iv : Int → List S29 → S29) : σ → List S29 → List S29 × σ
  | s, [] => ([], s)
  | s, x :: l => ((mapT lv iv s x).1 :: (mapL lv iv (mapT lv iv s x).2 l).1, (mapL lv iv (mapT lv iv s x).2 l).2)
end
theorem mapT_parts {σ : Type} (lv : σ → Int → S29 × σ) (iv : Int → List S29 → S29) (s : σ) (x : S29) : mapT lv iv s x = if x.f2.isEmpty then lv s x.f0 else (iv x.f1 (mapL lv iv s x.f2).1, (mapL lv iv s x.f2).2) := by cases x; simp only [mapT]
theorem mapL_cons {σ : Type} (lv : σ → Int → S29 × σ) (iv : Int → List S29 → S29) (s : σ) (x : S29) (l : List S29) : mapL lv iv s (x :: l) = ((mapT lv iv s x).1 :: (mapL lv iv (mapT lv iv s x).2 l).1, (mapL lv iv (mapT lv iv s x).2 l).2) := by simp only [mapL]
theorem mapL_nil {σ : Type} (lv : σ → Int → S29 × σ) (iv : Int → List S29 → S29) (s : σ) : mapL lv iv s [] = ([], s) := by simp only [mapL]
def leafV (_ : Unit) (h : Int) : S29 × Unit := (⟨h, 0, []⟩, ())
end Go.Proofs.Ytjnobnmjhpmpfaa.P

namespace Go.Proofs.Ytjnobnmjhpmpfaa.P
open Go.RowKit Go.Proofs.YtjnobnmjhpmpfaaW.PrintWords Go.Proofs.YtjnobnmjhpmpfaaW.PrintLast Go.Proofs.YtjnobnmjhpmpfaaW.PrintMore
attribute [local go_sem] max2_int min2_int max_two min_two max_three min_three max_four min_four
set_option linter.unusedVariables false
set_option linter.unusedSimpArgs false

/-! ### spec_l02Leaves: function 59 (by hand) -/
end Go.Proofs.Ytjnobnmjhpmpfaa.P

namespace Go.Proofs.Ytjnobnmjhpmpfaa.P
open Go.RowKit Go.Proofs.YtjnobnmjhpmpfaaW.PrintWords Go.Proofs.YtjnobnmjhpmpfaaW.PrintLast Go.Proofs.YtjnobnmjhpmpfaaW.PrintMore
attribute [local go_sem] max2_int min2_int max_two min_two max_three min_three max_four min_four
set_option linter.unusedVariables false
set_option linter.unusedSimpArgs false

/-! ### spec_LeavesOf: function 25 (by hand) -/
end Go.Proofs.Ytjnobnmjhpmpfaa.P

namespace Go.Proofs.Ytjnobnmjhpmpfaa.P
open Go.RowKit Go.Proofs.YtjnobnmjhpmpfaaW.PrintWords Go.Proofs.YtjnobnmjhpmpfaaW.PrintLast Go.Proofs.YtjnobnmjhpmpfaaW.PrintMore
attribute [local go_sem] max2_int min2_int max_two min_two max_three min_three max_four min_four
set_option linter.unusedVariables false
set_option linter.unusedSimpArgs false

end Go.Proofs.Ytjnobnmjhpmpfaa.P

namespace Go.Proofs.Ytjnobnmjhpmpfaa.P
open Go.RowKit Go.Proofs.YtjnobnmjhpmpfaaW.PrintWords Go.Proofs.YtjnobnmjhpmpfaaW.PrintLast Go.Proofs.YtjnobnmjhpmpfaaW.PrintMore
attribute [local go_sem] max2_int min2_int max_two min_two max_three min_three max_four min_four
set_option linter.unusedVariables false
set_option linter.unusedSimpArgs false

/-! ### impl_LeavesOf: function 26 (by hand) -/
end Go.Proofs.Ytjnobnmjhpmpfaa.P

namespace Go.Proofs.Ytjnobnmjhpmpfaa.P
open Go.RowKit Go.Proofs.YtjnobnmjhpmpfaaW.PrintWords Go.Proofs.YtjnobnmjhpmpfaaW.PrintLast Go.Proofs.YtjnobnmjhpmpfaaW.PrintMore
attribute [local go_sem] max2_int min2_int max_two min_two max_three min_three max_four min_four
set_option linter.unusedVariables false
set_option linter.unusedSimpArgs false

theorem okT_parts {h : Int} {x : S29} (e : okT h x = true) : (1 ≤ h ∧ h ≤ 7) ∧ 1 + mT x ≤ 60 ∧ fT h x = true := by
  unfold okT at e
  simp only [Bool.and_eq_true, decide_eq_true_eq] at e
  exact ⟨e.1, e.2.1, e.2.2.2⟩
end Go.Proofs.Ytjnobnmjhpmpfaa.P

namespace Go.Proofs.Ytjnobnmjhpmpfaa.P
open Go.RowKit Go.Proofs.YtjnobnmjhpmpfaaW.PrintWords Go.Proofs.YtjnobnmjhpmpfaaW.PrintLast Go.Proofs.YtjnobnmjhpmpfaaW.PrintMore
attribute [local go_sem] max2_int min2_int max_two min_two max_three min_three max_four min_four
set_option linter.unusedVariables false
set_option linter.unusedSimpArgs false

/-! ### spec_l02Told: function 64 (by hand) -/
end Go.Proofs.Ytjnobnmjhpmpfaa.P

namespace Go.Proofs.Ytjnobnmjhpmpfaa.P
open Go.RowKit Go.Proofs.YtjnobnmjhpmpfaaW.PrintWords Go.Proofs.YtjnobnmjhpmpfaaW.PrintLast Go.Proofs.YtjnobnmjhpmpfaaW.PrintMore
attribute [local go_sem] max2_int min2_int max_two min_two max_three min_three max_four min_four
set_option linter.unusedVariables false
set_option linter.unusedSimpArgs false

/-! ### spec_l01Before: function 93 -/
end Go.Proofs.Ytjnobnmjhpmpfaa.P

namespace Go.Proofs.Ytjnobnmjhpmpfaa.P
open Go.RowKit Go.Proofs.YtjnobnmjhpmpfaaW.PrintWords Go.Proofs.YtjnobnmjhpmpfaaW.PrintLast Go.Proofs.YtjnobnmjhpmpfaaW.PrintMore
attribute [local go_sem] max2_int min2_int max_two min_two max_three min_three max_four min_four
set_option linter.unusedVariables false
set_option linter.unusedSimpArgs false

/-! ### spec_l01Bits: function 102 -/
end Go.Proofs.Ytjnobnmjhpmpfaa.P

namespace Go.Proofs.Ytjnobnmjhpmpfaa.P
open Go.RowKit Go.Proofs.YtjnobnmjhpmpfaaW.PrintWords Go.Proofs.YtjnobnmjhpmpfaaW.PrintLast Go.Proofs.YtjnobnmjhpmpfaaW.PrintMore
attribute [local go_sem] max2_int min2_int max_two min_two max_three min_three max_four min_four
set_option linter.unusedVariables false
set_option linter.unusedSimpArgs false

/-! ### spec_l01Within: function 94 -/
end Go.Proofs.Ytjnobnmjhpmpfaa.P

namespace Go.Proofs.Ytjnobnmjhpmpfaa.P
open Go.RowKit Go.Proofs.YtjnobnmjhpmpfaaW.PrintWords Go.Proofs.YtjnobnmjhpmpfaaW.PrintLast Go.Proofs.YtjnobnmjhpmpfaaW.PrintMore
attribute [local go_sem] max2_int min2_int max_two min_two max_three min_three max_four min_four
set_option linter.unusedVariables false
set_option linter.unusedSimpArgs false

/-! ### spec_l01Ok: function 78 -/
end Go.Proofs.Ytjnobnmjhpmpfaa.P

namespace Go.Proofs.Ytjnobnmjhpmpfaa.P
open Go.RowKit Go.Proofs.YtjnobnmjhpmpfaaW.PrintWords Go.Proofs.YtjnobnmjhpmpfaaW.PrintLast Go.Proofs.YtjnobnmjhpmpfaaW.PrintMore
attribute [local go_sem] max2_int min2_int max_two min_two max_three min_three max_four min_four
set_option linter.unusedVariables false
set_option linter.unusedSimpArgs false

/-! ### spec_GateOfFamily: function 38 (by hand) -/
end Go.Proofs.Ytjnobnmjhpmpfaa.P

namespace Go.Proofs.Ytjnobnmjhpmpfaa.P
open Go.RowKit Go.Proofs.YtjnobnmjhpmpfaaW.PrintWords Go.Proofs.YtjnobnmjhpmpfaaW.PrintLast Go.Proofs.YtjnobnmjhpmpfaaW.PrintMore
attribute [local go_sem] max2_int min2_int max_two min_two max_three min_three max_four min_four
set_option linter.unusedVariables false
set_option linter.unusedSimpArgs false

/-! ### impl_leaves: function 65 -/
end Go.Proofs.Ytjnobnmjhpmpfaa.P

namespace Go.Proofs.Ytjnobnmjhpmpfaa.P
open Go.RowKit Go.Proofs.YtjnobnmjhpmpfaaW.PrintWords Go.Proofs.YtjnobnmjhpmpfaaW.PrintLast Go.Proofs.YtjnobnmjhpmpfaaW.PrintMore
attribute [local go_sem] max2_int min2_int max_two min_two max_three min_three max_four min_four
set_option linter.unusedVariables false
set_option linter.unusedSimpArgs false

/-! ### impl_orLimit: function 68 (by hand) -/
end Go.Proofs.Ytjnobnmjhpmpfaa.P

namespace Go.Proofs.Ytjnobnmjhpmpfaa.P
open Go.RowKit Go.Proofs.YtjnobnmjhpmpfaaW.PrintWords Go.Proofs.YtjnobnmjhpmpfaaW.PrintLast Go.Proofs.YtjnobnmjhpmpfaaW.PrintMore
attribute [local go_sem] max2_int min2_int max_two min_two max_three min_three max_four min_four
set_option linter.unusedVariables false
set_option linter.unusedSimpArgs false

/-! ### cmp_isNaN_int64: function 104 -/
end Go.Proofs.Ytjnobnmjhpmpfaa.P

namespace Go.Proofs.Ytjnobnmjhpmpfaa.P
open Go.RowKit Go.Proofs.YtjnobnmjhpmpfaaW.PrintWords Go.Proofs.YtjnobnmjhpmpfaaW.PrintLast Go.Proofs.YtjnobnmjhpmpfaaW.PrintMore
attribute [local go_sem] max2_int min2_int max_two min_two max_three min_three max_four min_four
set_option linter.unusedVariables false
set_option linter.unusedSimpArgs false

/-! ### cmp_Compare_int64: function 103 -/
end Go.Proofs.Ytjnobnmjhpmpfaa.P

namespace Go.Proofs.Ytjnobnmjhpmpfaa.P
open Go.RowKit Go.Proofs.YtjnobnmjhpmpfaaW.PrintWords Go.Proofs.YtjnobnmjhpmpfaaW.PrintLast Go.Proofs.YtjnobnmjhpmpfaaW.PrintMore
attribute [local go_sem] max2_int min2_int max_two min_two max_three min_three max_four min_four
set_option linter.unusedVariables false
set_option linter.unusedSimpArgs false

/-! ### slices_Compare_int64_int64: function 96 -/
end Go.Proofs.Ytjnobnmjhpmpfaa.P

namespace Go.Proofs.Ytjnobnmjhpmpfaa.P
open Go.RowKit Go.Proofs.YtjnobnmjhpmpfaaW.PrintWords Go.Proofs.YtjnobnmjhpmpfaaW.PrintLast Go.Proofs.YtjnobnmjhpmpfaaW.PrintMore
attribute [local go_sem] max2_int min2_int max_two min_two max_three min_three max_four min_four
set_option linter.unusedVariables false
set_option linter.unusedSimpArgs false

/-! ### impl_crowdOf: function 97 -/
end Go.Proofs.Ytjnobnmjhpmpfaa.P

namespace Go.Proofs.Ytjnobnmjhpmpfaa.P
open Go.RowKit Go.Proofs.YtjnobnmjhpmpfaaW.PrintWords Go.Proofs.YtjnobnmjhpmpfaaW.PrintLast Go.Proofs.YtjnobnmjhpmpfaaW.PrintMore
attribute [local go_sem] max2_int min2_int max_two min_two max_three min_three max_four min_four
set_option linter.unusedVariables false
set_option linter.unusedSimpArgs false

/-! ### impl_crowd_contains: function 98 -/
end Go.Proofs.Ytjnobnmjhpmpfaa.P

namespace Go.Proofs.Ytjnobnmjhpmpfaa.P
open Go.RowKit Go.Proofs.YtjnobnmjhpmpfaaW.PrintWords Go.Proofs.YtjnobnmjhpmpfaaW.PrintLast Go.Proofs.YtjnobnmjhpmpfaaW.PrintMore
attribute [local go_sem] max2_int min2_int max_two min_two max_three min_three max_four min_four
set_option linter.unusedVariables false
set_option linter.unusedSimpArgs false

/-! ### impl_ValidFamily: function 80 -/
end Go.Proofs.Ytjnobnmjhpmpfaa.P

namespace Go.Proofs.Ytjnobnmjhpmpfaa.P
open Go.RowKit Go.Proofs.YtjnobnmjhpmpfaaW.PrintWords Go.Proofs.YtjnobnmjhpmpfaaW.PrintLast Go.Proofs.YtjnobnmjhpmpfaaW.PrintMore
attribute [local go_sem] max2_int min2_int max_two min_two max_three min_three max_four min_four
set_option linter.unusedVariables false
set_option linter.unusedSimpArgs false

end Go.Proofs.Ytjnobnmjhpmpfaa.P

namespace Go.Proofs.Ytjnobnmjhpmpfaa.P
open Go.RowKit Go.Proofs.YtjnobnmjhpmpfaaW.PrintWords Go.Proofs.YtjnobnmjhpmpfaaW.PrintLast Go.Proofs.YtjnobnmjhpmpfaaW.PrintMore
attribute [local go_sem] max2_int min2_int max_two min_two max_three min_three max_four min_four
set_option linter.unusedVariables false
set_option linter.unusedSimpArgs false

/-! ### impl_GateOfFamily: function 40 (by hand) -/
end Go.Proofs.Ytjnobnmjhpmpfaa.P

namespace Go.Proofs.Ytjnobnmjhpmpfaa.P
open Go.RowKit Go.Proofs.YtjnobnmjhpmpfaaW.PrintWords Go.Proofs.YtjnobnmjhpmpfaaW.PrintLast Go.Proofs.YtjnobnmjhpmpfaaW.PrintMore
attribute [local go_sem] max2_int min2_int max_two min_two max_three min_three max_four min_four
set_option linter.unusedVariables false
set_option linter.unusedSimpArgs false

end Go.Proofs.Ytjnobnmjhpmpfaa.P

namespace Go.Proofs.Ytjnobnmjhpmpfaa.P
open Go.RowKit Go.Proofs.YtjnobnmjhpmpfaaW.PrintWords Go.Proofs.YtjnobnmjhpmpfaaW.PrintLast Go.Proofs.YtjnobnmjhpmpfaaW.PrintMore
attribute [local go_sem] max2_int min2_int max_two min_two max_three min_three max_four min_four
set_option linter.unusedVariables false
set_option linter.unusedSimpArgs false

end Go.Proofs.Ytjnobnmjhpmpfaa.P

namespace Go.Proofs.Ytjnobnmjhpmpfaa.P
open Go.RowKit Go.Proofs.YtjnobnmjhpmpfaaW.PrintWords Go.Proofs.YtjnobnmjhpmpfaaW.PrintLast Go.Proofs.YtjnobnmjhpmpfaaW.PrintMore
attribute [local go_sem] max2_int min2_int max_two min_two max_three min_three max_four min_four
set_option linter.unusedVariables false
set_option linter.unusedSimpArgs false

end Go.Proofs.Ytjnobnmjhpmpfaa.P

namespace Go.Proofs.Ytjnobnmjhpmpfaa.P
open Go.RowKit Go.Proofs.YtjnobnmjhpmpfaaW.PrintWords Go.Proofs.YtjnobnmjhpmpfaaW.PrintLast Go.Proofs.YtjnobnmjhpmpfaaW.PrintMore
attribute [local go_sem] max2_int min2_int max_two min_two max_three min_three max_four min_four
set_option linter.unusedVariables false
set_option linter.unusedSimpArgs false

end Go.Proofs.Ytjnobnmjhpmpfaa.P

namespace Go.Proofs.Ytjnobnmjhpmpfaa.P
open Go.RowKit Go.Proofs.YtjnobnmjhpmpfaaW.PrintWords Go.Proofs.YtjnobnmjhpmpfaaW.PrintLast Go.Proofs.YtjnobnmjhpmpfaaW.PrintMore
attribute [local go_sem] max2_int min2_int max_two min_two max_three min_three max_four min_four
set_option linter.unusedVariables false
set_option linter.unusedSimpArgs false

theorem mL_app (p q : List S29) : mL (p ++ q) = mL p + mL q := by
  induction p with
  | nil => simp [mL]
  | cons u p ihp => rw [List.cons_append, mL_cons, mL_cons, ihp]; omega
end Go.Proofs.Ytjnobnmjhpmpfaa.P

namespace Go.Proofs.Ytjnobnmjhpmpfaa.P
open Go.RowKit Go.Proofs.YtjnobnmjhpmpfaaW.PrintWords Go.Proofs.YtjnobnmjhpmpfaaW.PrintLast Go.Proofs.YtjnobnmjhpmpfaaW.PrintMore
attribute [local go_sem] max2_int min2_int max_two min_two max_three min_three max_four min_four
set_option linter.unusedVariables false
set_option linter.unusedSimpArgs false

def flatW (c : S29 → Bool) : List S29 → List S29
  | [] => []
  | x :: l => (if c x = true then x.f2 else [x]) ++ flatW c l
theorem flatW_size (c : S29 → Bool) : ∀ l, mL (flatW c l) ≤ mL l
  | [] => by simp [flatW]
  | x :: l => by
    have ih := flatW_size c l
    have hk := mT_kids x
    unfold flatW
    rw [mL_app, mL_cons]
    split
    · omega
    · rw [mL_cons]; simp [mL]; omega
theorem flatW_none {c : S29 → Bool} : ∀ l, (∀ x, c x = false) → flatW c l = l
  | [], _ => rfl
  | x :: l, h => by unfold flatW; rw [if_neg (by rw [h]; decide), flatW_none l h]; rfl
theorem flatW_same {c c' : S29 → Bool} : ∀ l, (∀ x, c x = c' x) → flatW c l = flatW c' l
  | [], _ => rfl
  | x :: l, h => by unfold flatW; rw [h x, flatW_same l h]
def inW (isV : S29 → Bool) (x : S29) : Bool := decide (0 < (x.f2.length : Int)) && isV x
set_option maxHeartbeats 1600000 in
theorem flatB_ev (isV : S29 → Bool) (ks : List S29) (hm : mL ks ≤ 1048576) : Ev (fun k => flatB.f isV k ks) (flatW (inW isV) ks) := by
  have key : ∀ (r pre out : List S29), pre ++ r = ks → out.length ≤ mL pre → Ev (fun k => flatB.l0 isV k ks out (pre.length : Int)) (out ++ flatW (inW isV) r) := by
    intro r
    induction r with
    | nil =>
      intro pre out hp ho
      rw [List.append_nil] at hp
      rw [show flatW (inW isV) [] = [] from rfl, List.append_nil]
      refine Ev.step (f := fun _ => some out) (fun k => ?_) (Ev.now _)
      simp only [flatB.l0]
      rw [if_neg (by rw [← hp]; omega)]
    | cons z r ihr =>
      intro pre out hp ho
      have hlen : ks.length = pre.length + (r.length + 1) := by rw [← hp, List.length_append, List.length_cons]
      have hsz : mL ks = mL pre + (1 + mT z + mL r) := by rw [← hp, mL_app, mL_cons]
      have hlk := mL_len ks
      have hlp := mL_len pre
      have hzl := mL_len z.f2
      have hk := mT_kids z
      have hz : rd_T29 ks (pre.length : Int) = z := by rw [← hp]; exact rdT_mid pre r z
      have hnext : ∀ add : List S29, add.length ≤ 1 + mT z → Ev (fun k => flatB.l0 isV k ks (out ++ add) ((pre.length + 1 : Nat) : Int)) ((out ++ add) ++ flatW (inW isV) r) := by
        intro add ha
        have := ihr (pre ++ [z]) (out ++ add) (by rw [← hp, List.append_assoc]; rfl) (by rw [List.length_append, mL_app, mL_cons]; simp [mL]; omega)
        rwa [List.length_append, List.length_singleton] at this
      have i1 : (pre.length : Int) < (ks.length : Int) := by omega
      have i2 : (0 : Int) ≤ (pre.length : Int) := by omega
      have i3 : (pre.length : Int) < 1048576 := by omega
      have i4 : out.length < 1048576 := by omega
      have i5 : out.length + z.f2.length < 1048576 := by omega
      have e := hnext [z] (by rw [List.length_singleton]; omega)
      have e2 := hnext z.f2 (by omega)
      rw [List.append_assoc] at e e2
      have hp0 : 0 < (z.f2.length : Int) ∨ (z.f2.length : Int) = 0 := by omega
      have hw : wrap64 ((pre.length : Int) + 1) = ((pre.length + 1 : Nat) : Int) := by rw [wr (by omega) (by omega)]; rfl
      by_cases c0 : (z.f2.length : Int) = 0
      · have hi : inW isV z = false := by unfold inW; rw [c0]; rfl
        rw [show flatW (inW isV) (z :: r) = [z] ++ flatW (inW isV) r by simp only [flatW, hi]; rfl]
        refine Ev.step (f := fun k => flatB.l0 isV k ks (out ++ [z]) ((pre.length + 1 : Nat) : Int)) (fun k => ?_) e
        simp only [flatB.l0]
        simp only [if_pos i1, if_pos i2, hz, hw, if_pos i3, if_pos c0, if_pos i4]
      · by_cases c1 : isV z = true
        · have hi : inW isV z = true := by unfold inW; rw [decide_eq_true (hp0.resolve_right c0), c1]; rfl
          rw [show flatW (inW isV) (z :: r) = z.f2 ++ flatW (inW isV) r by simp only [flatW, hi]; rfl]
          refine Ev.step (f := fun k => flatB.l0 isV k ks (out ++ z.f2) ((pre.length + 1 : Nat) : Int)) (fun k => ?_) e2
          simp only [flatB.l0]
          simp only [if_pos i1, if_pos i2, hz, hw, if_pos i3, if_neg c0, if_pos c1, if_pos i5]
        · have hi : inW isV z = false := by unfold inW; rw [Bool.eq_false_iff.mpr c1, Bool.and_false]
          rw [show flatW (inW isV) (z :: r) = [z] ++ flatW (inW isV) r by simp only [flatW, hi]; rfl]
          refine Ev.step (f := fun k => flatB.l0 isV k ks (out ++ [z]) ((pre.length + 1 : Nat) : Int)) (fun k => ?_) e
          simp only [flatB.l0]
          simp only [if_pos i1, if_pos i2, hz, hw, if_pos i3, if_neg c0, if_neg c1, if_pos i4]
  have := key ks [] [] rfl (by simp)
  exact this
def oneV (x : S29) : Bool := x.f1 == 1
def allV (x : S29) : Bool := x.f1 == (x.f2.length : Int)
def tidyV (b : Int) (l : List S29) : S29 := if (l.length : Int) = 1 then rd_T29 l 0 else (if b = 1 then ⟨-1, 1, flatW (inW oneV) l⟩ else (if b = (l.length : Int) then ⟨-1, ((flatW (inW allV) l).length : Int), flatW (inW allV) l⟩ else ⟨-1, b, l⟩))
theorem tidyV_ev (b : Int) (l : List S29) (hm : mL l ≤ 1048576) : Ev (fun k => tidyF k b l) (tidyV b l) := by
  unfold tidyF tidyV
  by_cases c0 : (l.length : Int) = 1
  · simp only [if_pos c0]; exact Ev.now _
  · simp only [if_neg c0]
    by_cases c1 : b = 1
    · simp only [if_pos c1]; exact Ev.bind (flatB_ev oneV l hm) (Ev.now _)
    · simp only [if_neg c1]
      by_cases c2 : b = (l.length : Int)
      · simp only [if_pos c2]; exact Ev.bind (flatB_ev allV l hm) (Ev.now _)
      · simp only [if_neg c2]; exact Ev.now _
theorem tidyV_size (b : Int) (l : List S29) : mT (tidyV b l) ≤ mL l := by
  unfold tidyV
  split
  · rename_i h
    match l, h with
    | [z], _ => rw [show rd_T29 [z] 0 = z from rfl, mL_cons]; omega
    | [], h => simp at h
    | _ :: _ :: _, h => simp only [List.length_cons] at h; omega
  · split
    · rw [mT_kids]; have := flatW_size (inW oneV) l; show mL (flatW (inW oneV) l) ≤ _; omega
    · split
      · rw [mT_kids]; have := flatW_size (inW allV) l; show mL (flatW (inW allV) l) ≤ _; omega
      · rw [mT_kids]; exact Nat.le_refl _
theorem tidyMap_size : ∀ (n : Nat), (∀ (x : S29), mT x ≤ n → mT (mapT leafV tidyV () x).1 ≤ mT x) ∧ (∀ (l : List S29), mL l ≤ n → mL (mapL leafV tidyV () l).1 ≤ mL l) := by
  intro n
  induction n with
  | zero =>
    refine ⟨fun x hx => ?_, fun l hl' => ?_⟩
    · have hk := mT_kids x
      have hz : x.f2 = [] := by
        cases e : x.f2 with
        | nil => rfl
        | cons y r => rw [e, mL_cons] at hk; omega
      rw [mapT_parts, mT_kids, mT_kids, hz]
      exact Nat.le_refl _
    · cases l with
      | nil => rw [mapL_nil]; exact Nat.le_refl _
      | cons y r => rw [mL_cons] at hl'; omega
  | succ n ih =>
    have hL : ∀ (l : List S29), mL l ≤ n + 1 → mL (mapL leafV tidyV () l).1 ≤ mL l := by
      intro l
      induction l with
      | nil => intro _; rw [mapL_nil]; exact Nat.le_refl _
      | cons y r ihr =>
        intro h
        rw [mL_cons] at h
        rw [mapL_cons]
        show mL ((mapT leafV tidyV () y).1 :: (mapL leafV tidyV () r).1) ≤ _
        have h1 := ih.1 y (by omega)
        have h2 := ihr (by omega)
        rw [mL_cons, mL_cons]
        omega
    refine ⟨fun x hx => ?_, hL⟩
    have hk := mT_kids x
    rw [mapT_parts]
    by_cases e : x.f2.isEmpty
    · rw [if_pos e, mT_kids]
      show mL ([] : List S29) ≤ _
      simp [mL]
    · rw [if_neg e]
      have h1 := tidyV_size x.f1 (mapL leafV tidyV () x.f2).1
      have h2 := hL x.f2 (by omega)
      show mT (tidyV x.f1 (mapL leafV tidyV () x.f2).1) ≤ _
      omega
theorem mapL_len {σ : Type} (lv : σ → Int → S29 × σ) (iv : Int → List S29 → S29) : ∀ (l : List S29) (s : σ), (mapL lv iv s l).1.length = l.length
  | [], s => by rw [mapL_nil]
  | x :: l, s => by rw [mapL_cons]; simp [mapL_len lv iv l]
theorem tidyMap_ev : ∀ (n : Nat) (x : S29), mT x ≤ n → n ≤ 1048576 → Ev (fun k => mapB.f leafD tidyF k () x) (mapT leafV tidyV () x) := by
  intro n
  induction n with
  | zero =>
    intro x hx hn
    have hk := mT_kids x
    have e : x.f2 = [] := by
      cases e : x.f2 with
      | nil => rfl
      | cons y r => rw [e, mL_cons] at hk; omega
    rw [mapT_parts, e]
    refine Ev.step (f := fun k => leafD k () x.f0) (fun k => ?_) (Ev.now _)
    simp only [mapB.f]
    rw [e, if_pos (by rfl)]
  | succ n ih =>
    intro x hx hn
    have hk := mT_kids x
    cases e : x.f2 with
    | nil =>
      rw [mapT_parts, e]
      refine Ev.step (f := fun k => leafD k () x.f0) (fun k => ?_) (Ev.now _)
      simp only [mapB.f]
      rw [e, if_pos (by rfl)]
    | cons y0 r0 =>
      have key : ∀ (r pre : List S29), pre ++ r = x.f2 → Ev (fun k => mapB.l0 leafD tidyF k () x.f2 x.f1 (mapL leafV tidyV () pre).1 (pre.length : Int)) (tidyV x.f1 (mapL leafV tidyV () (pre ++ r)).1, ()) := by
        intro r
        induction r with
        | nil =>
          intro pre hp
          rw [List.append_nil] at hp ⊢
          have hs := (tidyMap_size (mL pre)).2 pre (Nat.le_refl _)
          refine Ev.step (f := fun k => (tidyF k x.f1 (mapL leafV tidyV () pre).1).bind fun y => some (y, ())) (fun k => ?_) (Ev.bind (tidyV_ev _ _ (by rw [← hp] at hk; omega)) (Ev.now _))
          simp only [mapB.l0]
          rw [if_neg (by rw [← hp]; omega)]
        | cons z r ihr =>
          intro pre hp
          have hsz : mL x.f2 = mL pre + (1 + mT z + mL r) := by rw [← hp, mL_app, mL_cons]
          have hlp := mL_len pre
          have hkz := mT_kids z
          have e1 := ih z (by omega) (by omega)
          have e2 := ihr (pre ++ [z]) (by rw [← hp, List.append_assoc]; rfl)
          have hap : (mapL leafV tidyV () (pre ++ [z])).1 = (mapL leafV tidyV () pre).1 ++ [(mapT leafV tidyV () z).1] := by
            clear hp hsz hlp e2 ihr
            induction pre with
            | nil => rw [List.nil_append, mapL_cons, mapL_nil]; rfl
            | cons u pre ihp => rw [List.cons_append, mapL_cons, mapL_cons, ihp]; rfl
          rw [hap, List.length_append, List.length_singleton, List.append_assoc, List.singleton_append] at e2
          refine Ev.step (f := fun k => (mapB.f leafD tidyF k () z).bind fun t => mapB.l0 leafD tidyF k t.2 x.f2 x.f1 ((mapL leafV tidyV () pre).1 ++ [t.1]) ((pre.length + 1 : Nat) : Int)) (fun k => ?_) (Ev.bind e1 e2)
          simp only [mapB.l0]
          have hlen : x.f2.length = pre.length + (r.length + 1) := by rw [← hp, List.length_append, List.length_cons]
          have hll := mL_len x.f2
          rw [if_pos (by omega), if_pos (by omega), show rd_T29 x.f2 (pre.length : Int) = z by rw [← hp]; exact rdT_mid pre r z, wr (x := (pre.length : Int) + 1) (by omega) (by omega)]
          simp only [if_pos (show (mapL leafV tidyV () pre).1.length < 1048576 by rw [mapL_len]; omega)]
          rfl
      have k1 := key x.f2 [] rfl
      rw [List.nil_append] at k1
      have hne : ¬ x.f2.isEmpty = true := by rw [e]; simp
      rw [mapT_parts, if_neg hne]
      refine Ev.step (f := fun k => mapB.l0 leafD tidyF k () x.f2 x.f1 [] 0) (fun k => ?_) k1
      simp only [mapB.f]
      rw [if_neg (by rw [e, List.length_cons]; omega)]
theorem tidyE_same (x : S29) (l : List S29) (hl : l.length = x.f2.length) (h1 : ¬ (x.f2.length : Int) = 1) : tidyE x (flatW (tidyC x) l) = tidyV x.f1 l := by
  unfold tidyV
  rw [hl, if_neg h1]
  by_cases c1 : x.f1 = 1
  · rw [if_pos c1]
    have e : flatW (tidyC x) l = flatW (inW oneV) l := flatW_same l (fun t => by
      unfold tidyC inW oneV
      rw [c1, beq_eq_false_iff_ne.mpr (fun h => h1 h.symm), Bool.false_and, Bool.or_false]
      simp)
    rw [e]
    unfold tidyE
    rw [c1, if_neg (by rw [beq_eq_false_iff_ne.mpr (fun h => h1 h.symm)]; decide)]
  · rw [if_neg c1]
    by_cases c2 : x.f1 = (x.f2.length : Int)
    · rw [if_pos c2]
      have e : flatW (tidyC x) l = flatW (inW allV) l := flatW_same l (fun t => by
        unfold tidyC inW allV
        rw [beq_eq_false_iff_ne.mpr c1, beq_iff_eq.mpr c2, Bool.false_and, Bool.false_or, Bool.true_and])
      rw [e]
      unfold tidyE
      rw [if_pos (beq_iff_eq.mpr c2)]
    · rw [if_neg c2]
      have e : flatW (tidyC x) l = l := flatW_none l (fun t => by
        unfold tidyC
        rw [beq_eq_false_iff_ne.mpr c1, beq_eq_false_iff_ne.mpr c2, Bool.false_and, Bool.false_and, Bool.or_false, Bool.and_false])
      rw [e]
      unfold tidyE
      rw [if_neg (by rw [beq_eq_false_iff_ne.mpr c2]; decide)]
set_option maxHeartbeats 1600000 in
theorem spec_l02Tidy_ev : ∀ (n : Nat) (x : S29), mT x ≤ n → n ≤ 1048576 → Ev (fun k => spec_l02Tidy.f k x) (mapT leafV tidyV () x).1 := by
  intro n
  induction n with
  | zero =>
    intro x hx hn
    have hk := mT_kids x
    have e : x.f2 = [] := by
      cases e : x.f2 with
      | nil => rfl
      | cons y r => rw [e, mL_cons] at hk; omega
    rw [mapT_parts, e]
    refine Ev.step (f := fun _ => some ⟨x.f0, 0, []⟩) (fun k => ?_) (Ev.now _)
    simp only [spec_l02Tidy.f]
    rw [e, if_pos (by rfl)]
  | succ n ih =>
    intro x hx hn
    have hk := mT_kids x
    by_cases c0 : (x.f2.length : Int) = 0
    · have e : x.f2 = [] := List.eq_nil_of_length_eq_zero (by omega)
      rw [mapT_parts, e]
      refine Ev.step (f := fun _ => some ⟨x.f0, 0, []⟩) (fun k => ?_) (Ev.now _)
      simp only [spec_l02Tidy.f]
      rw [if_pos c0]
    · have hne : ¬ x.f2.isEmpty = true := by intro h; rw [List.isEmpty_iff.mp h] at c0; simp at c0
      by_cases c1 : (x.f2.length : Int) = 1
      · obtain ⟨z, hz⟩ : ∃ z, x.f2 = [z] := by
          match h : x.f2, c1 with
          | [z], _ => exact ⟨z, rfl⟩
          | [], c => simp at c
          | _ :: _ :: _, c => simp only [List.length_cons] at c; omega
        rw [mapT_parts, if_neg hne]
        have e1 := ih z (by rw [hz, mL_cons] at hk; omega) (by omega)
        refine Ev.step (f := fun k => spec_l02Tidy.f k z) (fun k => ?_) ?_
        · simp only [spec_l02Tidy.f]
          rw [if_neg c0, if_pos c1, hz]
          rfl
        · rw [hz, mapL_cons, mapL_nil]
          show Ev _ (tidyV x.f1 [(mapT leafV tidyV () z).1])
          unfold tidyV
          rw [if_pos (by rfl)]
          exact e1
      · have key : ∀ (r pre : List S29), pre ++ r = x.f2 → Ev (fun k => spec_l02Tidy.l0 k x (flatW (tidyC x) (mapL leafV tidyV () pre).1) (pre.length : Int)) (tidyE x (flatW (tidyC x) (mapL leafV tidyV () (pre ++ r)).1)) := by
          intro r
          induction r with
          | nil =>
            intro pre hp
            rw [List.append_nil] at hp ⊢
            refine Ev.step (f := fun _ => some (tidyE x (flatW (tidyC x) (mapL leafV tidyV () pre).1))) (fun k => ?_) (Ev.now _)
            simp only [spec_l02Tidy.l0]
            rw [if_neg (by rw [← hp]; omega)]
          | cons z r ihr =>
            intro pre hp
            have hsz : mL x.f2 = mL pre + (1 + mT z + mL r) := by rw [← hp, mL_app, mL_cons]
            have hlp := mL_len pre
            have hkz := mT_kids z
            have e1 := ih z (by omega) (by omega)
            have e2 := ihr (pre ++ [z]) (by rw [← hp, List.append_assoc]; rfl)
            have hap : (mapL leafV tidyV () (pre ++ [z])).1 = (mapL leafV tidyV () pre).1 ++ [(mapT leafV tidyV () z).1] := by
              clear hp hsz hlp e2 ihr
              induction pre with
              | nil => rw [List.nil_append, mapL_cons, mapL_nil]; rfl
              | cons u pre ihp => rw [List.cons_append, mapL_cons, mapL_cons, ihp]; rfl
            have hfl : ∀ (c : S29 → Bool) (p q : List S29), flatW c (p ++ q) = flatW c p ++ flatW c q := by
              intro c p q
              induction p with
              | nil => rfl
              | cons u p ihp => rw [List.cons_append]; simp only [flatW]; rw [ihp, List.append_assoc]
            have hsp := (tidyMap_size (mL pre)).2 pre (Nat.le_refl _)
            have hst := (tidyMap_size (mT z)).1 z (Nat.le_refl _)
            have hfs := flatW_size (tidyC x) (mapL leafV tidyV () pre).1
            have hfl2 := mL_len (flatW (tidyC x) (mapL leafV tidyV () pre).1)
            have hkt := mT_kids (mapT leafV tidyV () z).1
            have hlt := mL_len (mapT leafV tidyV () z).1.f2
            rw [hap, hfl, List.length_append, List.length_singleton, List.append_assoc, List.singleton_append] at e2
            have hlen : x.f2.length = pre.length + (r.length + 1) := by rw [← hp, List.length_append, List.length_cons]
            have hll := mL_len x.f2
            have i1 : (pre.length : Int) < (x.f2.length : Int) := by omega
            have i2 : (0 : Int) ≤ (pre.length : Int) := by omega
            have i4 : (flatW (tidyC x) (mapL leafV tidyV () pre).1).length < 1048576 := by omega
            have i5 : (flatW (tidyC x) (mapL leafV tidyV () pre).1).length + (mapT leafV tidyV () z).1.f2.length < 1048576 := by omega
            have hw : wrap64 ((pre.length : Int) + 1) = ((pre.length + 1 : Nat) : Int) := by rw [wr (by omega) (by omega)]; rfl
            have hz : rd_T29 x.f2 (pre.length : Int) = z := by rw [← hp]; exact rdT_mid pre r z
            refine Ev.step (f := fun k => (spec_l02Tidy.f k z).bind fun t => if tidyC x t = true then (if (flatW (tidyC x) (mapL leafV tidyV () pre).1).length + t.f2.length < 1048576 then spec_l02Tidy.l0 k x (flatW (tidyC x) (mapL leafV tidyV () pre).1 ++ t.f2) ((pre.length + 1 : Nat) : Int) else none) else (if (flatW (tidyC x) (mapL leafV tidyV () pre).1).length < 1048576 then spec_l02Tidy.l0 k x (flatW (tidyC x) (mapL leafV tidyV () pre).1 ++ [t]) ((pre.length + 1 : Nat) : Int) else none)) (fun k => ?_) (Ev.bind e1 ?_)
            · simp only [spec_l02Tidy.l0]
              simp only [if_pos i1, if_pos i2, hz, hw]
            · by_cases c : tidyC x (mapT leafV tidyV () z).1 = true
              · simp only [if_pos c]
                simp only [if_pos i5]
                rw [show flatW (tidyC x) [(mapT leafV tidyV () z).1] = (mapT leafV tidyV () z).1.f2 by unfold flatW; rw [if_pos c]; exact List.append_nil _] at e2
                exact e2
              · simp only [if_neg c]
                simp only [if_pos i4]
                rw [show flatW (tidyC x) [(mapT leafV tidyV () z).1] = [(mapT leafV tidyV () z).1] by unfold flatW; rw [if_neg c]; exact List.append_nil _] at e2
                exact e2
        have k1 := key x.f2 [] rfl
        rw [List.nil_append, tidyE_same x _ (mapL_len _ _ _ _) c1] at k1
        rw [mapT_parts, if_neg hne]
        refine Ev.step (f := fun k => spec_l02Tidy.l0 k x [] 0) (fun k => ?_) k1
        simp only [spec_l02Tidy.f]
        rw [if_neg c0, if_neg c1]
def TidyRes (h : Int) (x : S29) : S29 × Int := if okT h x = true then ((mapT leafV tidyV () x).1, 0) else (⟨0, 0, []⟩, 1)
theorem okT_size {h : Int} {x : S29} (hm : mL x.f2 ≤ 1048576) (e : okT h x = true) : mT x ≤ 1048576 := by
  have := (okT_parts e).2.1
  omega
theorem spec_TidyGate_ev (h a b : Int) (l : List S29) (hm : mL l ≤ 1048576) : Ev (fun k => spec_TidyGate.f k h a b l) ((TidyRes h ⟨a, b, l⟩).1.f0, (TidyRes h ⟨a, b, l⟩).1.f1, (TidyRes h ⟨a, b, l⟩).1.f2, (TidyRes h ⟨a, b, l⟩).2) := by
  unfold spec_TidyGate.f TidyRes
  refine Ev.bind (spec_l02Ok_ev h ⟨a, b, l⟩ (by rw [mT_kids]; exact hm)) ?_
  by_cases e : okT h ⟨a, b, l⟩ = true
  · simp only [if_pos e]
    exact Ev.bind (spec_l02Tidy_ev 1048576 ⟨a, b, l⟩ (okT_size hm e) (Nat.le_refl _)) (Ev.now _)
  · simp only [if_neg e]; exact Ev.now _
theorem impl_TidyGate_ev (h a b : Int) (l : List S29) (hm : mL l ≤ 1048576) : Ev (fun k => impl_TidyGate.f k h a b l) ((TidyRes h ⟨a, b, l⟩).1.f0, (TidyRes h ⟨a, b, l⟩).1.f1, (TidyRes h ⟨a, b, l⟩).1.f2, (TidyRes h ⟨a, b, l⟩).2) := by
  unfold impl_TidyGate.f TidyRes
  refine Ev.bind (impl_ValidGate_ev h a b l (by omega)) ?_
  by_cases e : okT h ⟨a, b, l⟩ = true
  · simp only [if_pos e]
    exact Ev.bind (tidyMap_ev 1048576 ⟨a, b, l⟩ (okT_size hm e) (Nat.le_refl _)) (Ev.now _)
  · simp only [if_neg e]; exact Ev.now _
theorem TidyRes_size (h : Int) (x : S29) : mL (TidyRes h x).1.f2 ≤ mL x.f2 := by
  unfold TidyRes
  split
  · have := (tidyMap_size (mT x)).1 x (Nat.le_refl _)
    have h1 := mT_kids x
    have h2 := mT_kids (mapT leafV tidyV () x).1
    show mL (mapT leafV tidyV () x).1.f2 ≤ _
    omega
  · simp [mL]

end Go.Proofs.Ytjnobnmjhpmpfaa.P

/- For all arguments the program's TidyGate and the reference's answer alike, the argument stays, and the result is memory of its own. -/
namespace Go.Proofs.Ytjnobnmjhpmpfaa.Pure
open Go.RowKit Go.Proofs.Ytjnobnmjhpmpfaa.P Go.Proofs.YtjnobnmjhpmpfaaW.PrintWords Go.Proofs.YtjnobnmjhpmpfaaW.PrintLast Go.Proofs.YtjnobnmjhpmpfaaW.PrintMore
set_option linter.unusedVariables false
set_option linter.unusedSimpArgs false

theorem wfG_ofT : ∀ {x : S24}, wfS24 x → wfG x
  | x, .mk _ _ _ h3 h4 => .mk x h3 (fun y hy => wfG_ofT (h4 y hy))
theorem FnExactTidyGate : laws_FnExactTidyGate.Pure := by
  intro h x _ hx
  have s1 := szGate_ev x.f0 x.f1 x.f2 (wfL_kids (wfG_ofT hx)) 1048576 (by omega) (by omega)
  by_cases hb : (nL x.f2 : Int) ≤ 1048576
  · rw [show szV 1048576 (nL x.f2) = 1048576 - (nL x.f2 : Int) from by unfold szV; rw [if_pos hb]] at s1
    have hm : mL (cvL x.f2) ≤ 1048576 := by rw [mL_cv]; omega
    have hs := TidyRes_size h ⟨x.f0, x.f1, cvL x.f2⟩
    have e1 := spec_TidyGate_ev h x.f0 x.f1 (cvL x.f2) hm
    have e2 := impl_TidyGate_ev h x.f0 x.f1 (cvL x.f2) hm
    obtain ⟨⟨y, q⟩, er⟩ : ∃ r, r = TidyRes h ⟨x.f0, x.f1, cvL x.f2⟩ := ⟨_, rfl⟩
    rw [← er] at e1 e2 hs
    dsimp only at hs
    obtain ⟨k, a1, a2, a3, a4, a5, a6, a7, a8, a9⟩ := From.now (From.and s1 (From.and (toGate_ev x.f0 x.f1 x.f2 (by omega)) (From.and e1 (From.and e2 (From.and (eqGate_same y.f0 y.f1 y.f2 (by omega)) (From.and (eqGate_same x.f0 x.f1 (cvL x.f2) hm) (From.and (markGate_ev x.f0 x.f1 (cvL x.f2) hm) (From.and (markGate_ev y.f0 y.f1 y.f2 (by omega)) (heldGate_ev y.f0 y.f1 y.f2 (by omega))))))))))
    exact Or.inr ⟨k, _, _, _, _, _, _, _, _, _, a1, decide_eq_false (by omega), a2, a3, a2, a4, a5, a2, a6, a7, decide_eq_false (by omega), a5, a8, a9, decide_eq_false (by omega), a2, a4, a5, a9, decide_eq_false (by omega)⟩
  · rw [show szV 1048576 (nL x.f2) = -1 from by unfold szV; rw [if_neg hb]] at s1
    obtain ⟨k, a1⟩ := From.now s1
    exact Or.inl ⟨k, _, a1, by decide⟩

end Go.Proofs.Ytjnobnmjhpmpfaa.Pure

/- The row of the law FnExactTidyGate: whatever its arguments, it answers true, and they read as before. No condition. -/
namespace Go.Proofs.Ytjnobnmjhpmpfaa.fnExactTidyGate
open Go.ChangeShapes Go.WideShapes Go.ChangeAt Go.RowKit Go.Proofs.Ytjnobnmjhpmpfaa.P Go.Proofs.YtjnobnmjhpmpfaaW.PrintWords Go.Proofs.YtjnobnmjhpmpfaaW.PrintLast Go.Proofs.YtjnobnmjhpmpfaaW.PrintMore
open Go.ChangeMaps (open_string shut_string)
set_option linter.unusedVariables false
theorem own : ownKnob Try.prog.godebug = none := by kernel_rfl
theorem laidOut : laidOutB Try.prog = true := by kernel_rfl
set_option maxRecDepth 100000 in
theorem lifted (os : Os) (started : os.Started) (H : Type) (enc : TypeId × Value → H) :
    ReturnsInHanded {} Try.checked os 9 .any (Rows.fnExactTidyGateSpec.pre6 enc Try.prog Try.f9 Rows.fnExactTidyGateRow.domain false) (Rows.fnExactTidyGateSpec.post enc Try.prog Try.f9 false true false false) := by
  refine returnsInHanded_of_change_sized (C := Try.checked) own started (by kernel_rfl) Try.func9
    (ChangeSpec.witness6 (enc := enc) (C := Try.checked) false ⟨#[], #[.int .i64 0, .agg #[.int .i64 0, .int .i64 0, .slice none 0 0]], []⟩ 8 (by kernel_rfl) (by kernel_rfl) (by kernel_rfl) (by kernel_rfl)) ?_
  intro W base args ds gs before hval0 hW hcnd hsz0 _
  have hval : ∀ (j : Nat) t v, Try.f9.params[j]? = some t → args[j]? = some v → Value.okWide Try.prog W .any base t v := hval0
  have hW' := hW
  obtain ⟨p, q, hA0, hV, rfl, hfz, hnd⟩ := hW
  have hA : DataW.TrodAll enc Try.prog W 0 (fun _ => true) true Try.f9.params.toList args.toList ds p := hA0
  rw [Try.params9] at hA hval
  obtain ⟨v0, vs0, d0, ds0, p0, q0, hargs, rfl, rfl, h0, r0⟩ := trodAll_cons hA
  obtain ⟨v1, vs1, d1, ds1, p1, q1, rfl, rfl, rfl, h1, r1⟩ := trodAll_cons r0
  obtain ⟨rfl, rfl, rfl⟩ := trodAll_nil r1
  obtain rfl : args = #[v0, v1] := by cases args; simp_all
  obtain ⟨rfl, rfl⟩ := trodVars_none hV
  obtain ⟨a0, rfl, rfl, rfl, w0⟩ := open_int Try.underlying2 (hval 0 2 v0 rfl rfl) h0
  have k1 := h1
  have lt1 : ∀ x ∈ p1, x.block < W.heap.size := by obtain ⟨m, hm⟩ := k1; exact DataW.trod_lt m _ _ _ hm
  obtain ⟨cs1, rfl, _⟩ := okWide_struct Try.underlying24 (hval 1 24 v1 rfl rfl)
  obtain ⟨x1, hK1, wf1⟩ := OpensAt.any opensS24 h1
  obtain ⟨A1_2, c1_2, e1, l1_2, g1_2⟩ := k24_open hK1
  obtain rfl : cs1 = #[.int .i64 x1.f0, .int .i64 x1.f1, .slice A1_2 x1.f2.length c1_2] := by cases cs1; simpa [Value.cells] using e1
  clear hA0 hval0 hsz0
  refine (P.laws_FnExactTidyGate.walk Pure.FnExactTidyGate a0 x1 _ _ W g1_2 l1_2 w0 wf1).mono fun e W' ⟨he, bel⟩ => ?_
  subst he
  exact ⟨_, rfl, _, _, _, [], _, [], hW', trodAll_mk1 (shut_bool Try.underlying4 _), (trodAll_cons_mk (shut_int Try.underlying2 w0) (trodAll_cons_mk (Below.trod laidOut (by kernel_rfl) (of_decide_eq_true (by kernel_rfl)) k1 bel lt1) trodAll_mk0)), rfl, bel.frame _, fun h => by cases h⟩
theorem over : Rows.fnExactTidyGateRow.holds Try.pinned (OpenSpec.ofChange Rows.fnExactTidyGateSpec) :=
  OpenClaim.holds_of_wide 9 Try.f9 rfl rfl rfl rfl rfl rfl rfl ⟨rfl, rfl, rfl, rfl, rfl⟩ rfl rfl rfl rfl rfl (by kernel_rfl) Try.func9 (by kernel_rfl)
    (of_decide_eq_true (by kernel_rfl)) (by unfold Func.isWrapper; first | (rw [if_pos (by decide +kernel)]; kernel_rfl) | (rw [if_neg (by decide +kernel)]; exact ⟨rfl, rfl⟩))
    (fun os started H enc _ => lifted os started H enc)
theorem proved : Rows.FnExactTidyGateSaid := over
#print axioms proved
end Go.Proofs.Ytjnobnmjhpmpfaa.fnExactTidyGate
namespace Go.Proofs.Ytjnobnmjhpmpfaa
/-- The row, under a short name, for the claim. -/
theorem fnExactTidyGate_holds : Rows.FnExactTidyGateSaid := fnExactTidyGate.proved
end Go.Proofs.Ytjnobnmjhpmpfaa
