/- For any two byte lists the law of spanned lists, combinations and solutions answers true. This text: part 2 of what it rests on: functions of the translation as plain Lean functions, and that the machine's calls come to their answers. -/
import Derived.Test.YtjpbemomocccaaaCFnCombinationa
namespace Go.Proofs.Ytjpbemomocccaaa.P
open Go.RowKit Go.Proofs.YtjpbemomocccaaaW.PrintWords Go.Proofs.YtjpbemomocccaaaW.PrintLast Go.Proofs.YtjpbemomocccaaaW.PrintMore
attribute [local go_sem] max2_int min2_int max_two min_two max_three min_three max_four min_four
set_option linter.unusedVariables false
set_option linter.unusedSimpArgs false

/-! ### impl_Matrix_combination: function 75 (by hand) -/
def impl_Matrix_combination.f (k : Nat) (a0_0 : Int) (a0_1 : Int) (l0_2 : List (List Int)) (l1 : List Int) : Option (List Int × Bool) := combMain k a0_0 l0_2 l1
set_option maxHeartbeats 8000000 in
set_option maxRecDepth 100000 in
theorem impl_Matrix_combination.calls (k : Nat) (a0_0 : Int) (a0_1 : Int) (A0_2 : Option Addr) (c0_2 : Nat) (l0_2 : List (List Int)) (A1 : Option Addr) (c1 : Nat) (l1 : List Int) (r1 : List Int) (r2 : Bool) (w : World) (hr0_2 : Kd.C (Kd.slice 2 (Kd.int .i64)) w A0_2 l0_2.length l0_2) (hc0_2 : l0_2.length ≤ c0_2) (hr1 : Kd.C (Kd.int .i64) w A1 l1.length l1) (hc1 : l1.length ≤ c1) (h : impl_Matrix_combination.f k a0_0 a0_1 l0_2 l1 = some (r1, r2)) :
    Calls Try.prog 75 #[.agg #[.int .i64 a0_0, .int .i64 a0_1, .slice A0_2 l0_2.length c0_2], .slice A1 l1.length c1] w fun e w' => ∃ v0_ : Value, e = .returned (.tuple #[v0_, .bool r2]) ∧ Kd.R (Kd.int .i64) 2 w' w.heap.size (fun _ => True) v0_ r1 ∧ Below w.heap.size w w' := by
  have mention_ : True := by (have h0 := @CombX.mk'; have h1 := @CombX.put; have h2 := @CombX.putf; have h3 := @CombX.less; have h4 := @CombX.scx; have h5 := @CombX.scf; have h6 := @CombX.cx_; have h7 := @CombX.lx; have h8 := @CombX.drew; have h9 := @CombX.below; trivial)
  clear mention_
  have hum := Try.underlying26
  have HR := Aside0.mk hr0_2
  have HC := Aside0.mk hc0_2
  have HR1 := Aside0.mk hr1
  have HC1 := Aside0.mk hc1
  clear hr0_2 hc0_2 hr1 hc1
  go_enter Try.func75, Try.ntmps75
  unfold impl_Matrix_combination.f combMain at h
  replace h := Option.bind_eq_some_iff.mp h
  obtain ⟨ps, At1, h⟩ := h
  have A1_ := Aside0.mk At1
  have HE := Aside0.mk h
  clear At1 h
  go_wp2_with (first | ((with_reducible refine gate_dst (N := 14) rfl ?_); refine Kd.R_lit (Kd.pair (Kd.slice 2 (Kd.int .i64)) (Kd.slice 2 (Kd.int .i64))) _ 106 ?hg (N := 14) ?hd (xs := ([] : List (List Int × List Int))) (inner := []) (ok := fun k_ => w.heap.size + 1 ≤ k_) (okp := fun k_ => w.heap.size + 1 ≤ k_) ?hr ?hp (fun _ hk => hk) (by simp) (Below.refl _ _) (Nat.le_refl _) (by simp) ?_; (case hd => rfl); (case hg => rfl); (case hr => first | (go_simp; done) | (go_simp; rfl)); (case hp => exact (Reps.none _ _)); intro v14 w2 ho3 hb hg_ hnew_; clear hg_ hnew_; have BM := Aside0.mk (blk_below (g := w.heap.size) (o := .cells #[.int .i64 a0_0, .int .i64 a0_1, .slice A0_2 l0_2.length c0_2] 26 (0, 0)) (by repeat (first | exact blk_new_at (by simp) | (with_reducible refine blk_drewN ?_ _) | (with_reducible refine blk_drew ?_) | (with_reducible refine blk_alloc ?_ _))) hb); have HB : Aside0 (Below w.heap.size w w2) := ⟨below_step (by repeat (first | exact Below.refl _ _ | apply below_alloc | apply pw_below_drewN | apply below_drew1)) hb⟩; have HPt := Aside0.mk (Kd.R_lower (base' := w.heap.size) ho3 (by first | simp | (simp; omega))); obtain ⟨Ab, cb, eb, _⟩ := Kd.R_reads ho3; subst eb; clear ho3 hb; have hm0 : w2.cell? ⟨w.heap.size, 0, none⟩ = some (.int .i64 a0_0) := (blk_cell BM.out 0).trans rfl; have hm2 : w2.cell? ⟨w.heap.size, 2, none⟩ = some (.slice A0_2 l0_2.length c0_2) := (blk_cell BM.out 2).trans rfl; have hlt := blk_lt BM.out))
  obtain ⟨gB, hgB⟩ : ∃ g, g = w2.heap.size := ⟨_, rfl⟩
  have BB : Aside0 ((w2.alloc (.cells #[.slice Ab 0 cb] 104)).heap[gB]? = some (.cells #[.slice Ab 0 cb] 104 (0, 0))) := ⟨by rw [hgB]; exact blk_new _ _⟩
  have HPt2 : Aside0 (Kd.R (Kd.pair (Kd.slice 2 (Kd.int .i64)) (Kd.slice 2 (Kd.int .i64))) 106 (w2.alloc (.cells #[.slice Ab 0 cb] 104)) w.heap.size (fun k_ => w.heap.size + 1 ≤ k_ ∧ k_ ≠ gB) (.slice Ab 0 cb) []) := ⟨Kd.R_alloc (Kd.R_mono (Kd.R_bound HPt.out) (fun k_ hk_ => ⟨hk_.1, by have := hk_.2.2.1; omega⟩)) _⟩
  have HGB : Aside0 (w.heap.size + 1 ≤ gB) := ⟨by omega⟩
  clear HPt
  have HL20 : Aside0 (l0_2.length ≤ 1048576) := ⟨combRows_small A1_.out⟩
  rw [← hgB]
  clear hgB
  go_loopg [19] k (fun kq v19 w' => ∃ (i : Int) (parts : List (List Int × List Int)) (vb : Value), v19 = .int .i64 i ∧ Aside0 (combRows kq a0_0 l0_2 parts i = some ps) ∧ Aside0 (kq ≤ k) ∧ Aside0 (Kd.R (Kd.pair (Kd.slice 2 (Kd.int .i64)) (Kd.slice 2 (Kd.int .i64))) 106 w' w.heap.size (fun k_ => w.heap.size + 1 ≤ k_ ∧ k_ ≠ gB) vb parts) ∧ Aside0 (w'.heap[w.heap.size]? = some (.cells #[.int .i64 a0_0, .int .i64 a0_1, .slice A0_2 l0_2.length c0_2] 26 (0, 0))) ∧ Aside0 (w'.heap[gB]? = some (.cells #[vb] 104 (0, 0))) ∧ Aside0 (Below w.heap.size w w'))
  case atStart => exact ⟨0, [], _, rfl, A1_, ⟨Nat.le_refl _⟩, HPt2, ⟨blk_alloc BM.out _⟩, BB, ⟨below_alloc HB.out _⟩⟩
  case round =>
    clear HB BM BB HPt2 A1_ hm0 hm2 hlt
    obtain ⟨i, parts, vb, rfl, HA, HK1, HPt, BM, BB, HB⟩ := hrel
    cases gk with
    | zero => exact absurd HA.out (by simp [combRows])
    | succ k1 =>
      have H := HA.out
      clear HA
      simp only [combRows] at H
      by_cases c2 : i < (l0_2.length : Int)
      · rw [if_pos c2] at H
        by_cases c3 : 0 ≤ i
        case neg => rw [if_neg c3] at H; exact absurd H (by simp)
        rw [if_pos c3] at H
        by_cases c4 : l0_2.length ≤ 1048576
        case neg => rw [if_neg c4] at H; exact absurd H (by simp)
        rw [if_pos c4] at H
        replace H := Option.bind_eq_some_iff.mp H
        obtain ⟨r0, At, H⟩ := H
        have B1 := Aside0.mk At
        clear At
        replace H := Option.bind_eq_some_iff.mp H
        obtain ⟨x, At, H⟩ := H
        have B2 := Aside0.mk At
        clear At
        replace H := Option.bind_eq_some_iff.mp H
        obtain ⟨f, At, H⟩ := H
        have B3 := Aside0.mk At
        clear At
        have H1 := Aside0.mk H
        clear H
        obtain ⟨adr, Ar, cr, er, hxr, hlr, hir⟩ := at_L1 (Kd.C_below HR.out HB.out) i c3 c2
        cases er
        have HLR := Aside0.mk hlr
        have HIR := Aside0.mk hir
        clear hlr hir
        have hm2 : wr.cell? ⟨w.heap.size, 2, none⟩ = some (.slice (some adr) l0_2.length c0_2) := (blk_cell BM.out 2).trans rfl
        have c2b : decide (i < (l0_2.length : Int)) = true := decide_eq_true c2
        have c3b : decide (0 ≤ i) = true := decide_eq_true c3
        have CC := Aside0.mk (And.intro c3 (And.intro c2 c4))
        replace c2 := eq_true c2
        replace c3 := eq_true c3
        clear c4
        obtain ⟨zs, hzs⟩ : ∃ z : List Int, z = List.replicate l0_2.length 0 := ⟨_, rfl⟩
        have HZS := Aside0.mk hzs
        clear hzs
        go_wp2
        clear hxr hm2
        have HBr : Aside0 (Below wr.heap.size wr wr.drew) := ⟨below_drew1 (Below.refl _ _)⟩
        have BMr := Aside0.mk (blk_drew BM.out)
        refine start_ (n := 9) (S := fun w' => w'.cell? ⟨w.heap.size, 2, none⟩ = some (.slice (some adr) l0_2.length c0_2)) (ds := [8]) #[false, false, false, false, false, false, false, false, false] (by kernel_rfl) rfl rfl ((blk_cell BMr.out 2).trans rfl) (fun hHeld => ?_)
        generalize wr.drew = w5 at HBr BMr hHeld ⊢
        refine pure_ (i := 0) (N := some 24) (v := ?_) (a' := ?_) #[true, false, false, false, false, false, false, false, false] rfl rfl (by kernel_rfl) (fun _ _ _ h => h) (Or.inl ⟨by rfl, ?_⟩) ?_ ?_
        rotate_left
        · intro w'
          first | (go_simp; with_reducible rfl) | (simp [go_sem, Instr.field, asAgg] <;> with_reducible rfl)
        rotate_left
        · simp only [Act.put, List.setIfInBounds_toArray, List.set_cons_zero, List.set_cons_succ, i64_w, i32_w]
          rfl
        refine pure_ (i := 2) (N := some 26) (v := ?_) (a' := ?_) #[true, false, true, false, false, false, false, false, false] rfl rfl (by kernel_rfl) (fun _ _ _ h => h) (Or.inl ⟨by rfl, ?_⟩) ?_ ?_
        rotate_left
        · intro w'
          first | (go_simp; with_reducible rfl) | (simp [go_sem, Instr.field, asAgg] <;> with_reducible rfl)
        rotate_left
        · simp only [Act.put, List.setIfInBounds_toArray, List.set_cons_zero, List.set_cons_succ, i64_w, i32_w]
          rfl
        refine take_ (i := 3) (N := some 27) (v := ?_) (a' := ?_) #[true, false, true, true, false, false, false, false, false] rfl rfl (by kernel_rfl) (fun _ _ _ h => h) (Or.inl ⟨by rfl, ?_⟩) hHeld ?_ ?_
        rotate_left
        · intro w' s0
          go_simp
          with_reducible rfl
        rotate_left
        · simp only [Act.put, List.setIfInBounds_toArray, List.set_cons_zero, List.set_cons_succ, i64_w, i32_w]
          rfl
        refine pure_ (i := 4) (N := some 28) (v := ?_) (a' := ?_) #[true, false, true, true, true, false, false, false, false] rfl rfl (by kernel_rfl) (fun _ _ _ h => h) (Or.inl ⟨by rfl, ?_⟩) ?_ ?_
        rotate_left
        · intro w'
          first | (go_simp; with_reducible rfl) | (simp [go_sem, Instr.field, asAgg] <;> with_reducible rfl)
        rotate_left
        · simp only [Act.put, List.setIfInBounds_toArray, List.set_cons_zero, List.set_cons_succ, i64_w, i32_w]
          rfl
        refine join_ (σ := Value × Value × Nat) 1 #[true, true, true, true, true, true, true, true, false] (fun s_ => [(25, s_.1), (29, s_.2.1), (30, .agg #[s_.1, s_.2.1]), (10, .pointer (some ⟨s_.2.2, 0, none⟩))]) (fun s_ w' => (w'.cell? ⟨w.heap.size, 2, none⟩ = some (.slice (some adr) l0_2.length c0_2)) ∧ (Kd.R (Kd.int .i64) 2 w' wr.heap.size (fun _ => True) s_.1 r0) ∧ (Kd.R (Kd.int .i64) 2 w' wr.heap.size (fun _ => True) s_.2.1 zs) ∧ (w'.heap[s_.2.2]? = some (.cells #[.slice none 0 0, .slice none 0 0] 106 (0, 0))) ∧ (wr.heap.size ≤ s_.2.2) ∧ (∀ k, (s_.1 : Value).ownBlock = some k → (s_.2.1 : Value).ownBlock ≠ some k) ∧ (∀ k, (s_.1 : Value).ownBlock = some k → k ≠ s_.2.2) ∧ (∀ k, (s_.2.1 : Value).ownBlock = some k → k ≠ s_.2.2) ∧ (Below wr.heap.size wr w')) ?_ ?_
        rotate_left
        · intro hCont
          refine three_ (i := 1) (j := 5) (k := 7) (Ni := some 25) (Nj := some 29) (Nk := some 10) #[true, true, true, true, true, false, false, false, false] #[true, false, true, true, true, true, false, false, false] #[true, false, true, true, true, false, false, true, false] rfl rfl rfl rfl rfl rfl (by kernel_rfl) (by decide) (by decide) (by decide) (fun K hK => ?_) (fun K hK => ?_) (fun K hK => ?_)
          · skip
            refine goes_ Try.func64 (by kernel_rfl) rfl #[.slice Ar (rd_L1 l0_2 i).length cr] (by rfl) rfl rfl (by simp only [List.map_toArray, List.map_cons, List.map_nil]; rfl) ?_
            with_reducible refine (slices_Clone_int64_int64.calls Ar cr (rd_L1 l0_2 i) r0 _ (Kd.C_below HIR.out HBr.out) HLR.out B1.out).mono ?_
            rintro e wc ⟨vc, rfl, ho, hb⟩
            refine ⟨_, rfl, ?_⟩
            obtain ⟨Avc, cvc, evc⟩ := Kd.R_slice ho
            subst evc
            have HVC : Aside0 (Kd.R (Kd.int .i64) 2 wc wr.heap.size (fun _ => True) (.slice Avc r0.length cvc) r0) := ⟨Kd.R_lower ho (below_size HBr.out)⟩
            have HB2 := Aside0.mk (below_step HBr.out hb)
            have BM2 := Aside0.mk (blk_below BMr.out hb)
            clear HBr BMr
            have HBr := HB2
            have BMr := BM2
            clear HB2 BM2
            refine hK.out _ _ ((blk_cell BMr.out 2).trans rfl) (fun hHeld => ?_)
            clear hK K
            refine norm_ (a' := ?_) ?_ ?_
            rotate_left
            · show Act.put _ (some 25) _ = _
              simp only [Act.put, List.setIfInBounds_toArray, List.set_cons_zero, List.set_cons_succ, i64_w, i32_w]
              rfl
            refine two_ (i := 5) (j := 7) (Ni := some 29) (Nj := some 10) #[true, true, true, true, true, true, false, false, false] #[true, true, true, true, true, false, false, true, false] rfl rfl rfl rfl (by kernel_rfl) (by decide) (by decide) (fun K hK => ?_) (fun K hK => ?_)
            · skip
              refine Kd.R_make_step (Kd.int .i64) _ 2 (by rfl) (N := 29) rfl 35 _ _ rfl (l0_2.length : Int) rfl rfl Try.underlying35 (.int .i64 0) 8 info2 rfl (by decide) (by omega) 0 (ok := fun _ => True) (okp := fun _ => True) rfl (fun _ hk => hk) trivial (by omega) (by have := CC.out.2.2; simp only [Int.toNat_natCast]; omega) (Below.refl _ _) (Nat.le_refl _) ?_
              intro vm wm1 ho hb hg_ hnew_
              clear hg_ hnew_
              rw [Int.toNat_natCast, ← HZS.out] at ho
              obtain ⟨Avm, cvm, evm⟩ := Kd.R_slice ho
              subst evm
              have hcm : Aside0 (∀ k, ((.slice Avc r0.length cvc) : Value).ownBlock = some k → ((.slice Avm zs.length cvm) : Value).ownBlock ≠ some k) := ⟨fun k h1 h2 => by have := Kd.R_lt HVC.out k h1; have := Kd.R_base ho k h2; omega⟩
              have HVC2 := Aside0.mk (Kd.R_below HVC.out hb)
              clear HVC
              have HVC := HVC2
              clear HVC2
              have HVM : Aside0 (Kd.R (Kd.int .i64) 2 wm1 wr.heap.size (fun _ => True) (.slice Avm zs.length cvm) zs) := ⟨Kd.R_lower ho (below_size HBr.out)⟩
              have HB2 := Aside0.mk (below_step HBr.out hb)
              have BM2 := Aside0.mk (blk_below BMr.out hb)
              clear HBr BMr
              have HBr := HB2
              have BMr := BM2
              clear HB2 BM2
              refine hK.out _ _ ((blk_cell BMr.out 2).trans rfl) (fun hHeld => ?_)
              clear hK K
              refine norm_ (a' := ?_) ?_ ?_
              rotate_left
              · show Act.put _ (some 29) _ = _
                simp only [Act.put, List.setIfInBounds_toArray, List.set_cons_zero, List.set_cons_succ, i64_w, i32_w]
                rfl
              refine pure_ (i := 6) (N := some 30) (v := ?_) (a' := ?_) #[true, true, true, true, true, true, true, false, false] rfl rfl (by kernel_rfl) (fun _ _ _ h => h) (Or.inl ⟨by rfl, ?_⟩) ?_ ?_
              rotate_left
              · intro w'
                first | (go_simp; with_reducible rfl) | (simp [go_sem, Instr.field, asAgg] <;> with_reducible rfl)
              rotate_left
              · simp only [Act.put, List.setIfInBounds_toArray, List.set_cons_zero, List.set_cons_succ, i64_w, i32_w]
                rfl
              refine one_ (i := 7) (N := some 10) #[true, true, true, true, true, true, true, true, false] rfl rfl (by kernel_rfl) (by decide) (fun K hK => ?_)
              refine box_step (by rfl) (N := 10) rfl (cs := #[.slice none 0 0, .slice none 0 0]) (t := 106) ?_ ?_
              · first | (go_simp; done) | (go_simp; rfl)
              intro gx hgx wx15 hbox hb
              have hcx : Aside0 (∀ k, ((.slice Avc r0.length cvc) : Value).ownBlock = some k → k ≠ gx) := ⟨fun k h1 h2 => by have := Kd.R_lt HVC.out k h1; omega⟩
              have HVC2 := Aside0.mk (Kd.R_below HVC.out hb)
              clear HVC
              have HVC := HVC2
              clear HVC2
              have hmx : Aside0 (∀ k, ((.slice Avm zs.length cvm) : Value).ownBlock = some k → k ≠ gx) := ⟨fun k h1 h2 => by have := Kd.R_lt HVM.out k h1; omega⟩
              have HVM2 := Aside0.mk (Kd.R_below HVM.out hb)
              clear HVM
              have HVM := HVM2
              clear HVM2
              have HGX := Aside0.mk hbox
              have HGW : Aside0 (wr.heap.size ≤ gx) := ⟨by rw [hgx]; exact (below_size HBr.out)⟩
              have HB2 := Aside0.mk (below_step HBr.out hb)
              have BM2 := Aside0.mk (blk_below BMr.out hb)
              clear HBr BMr
              have HBr := HB2
              have BMr := BM2
              clear HB2 BM2
              refine hK.out _ _ ((blk_cell BMr.out 2).trans rfl) (fun hHeld => ?_)
              clear hK K
              refine norm_ (a' := ?_) ?_ ?_
              rotate_left
              · show Act.put _ (some 10) _ = _
                simp only [Act.put, List.setIfInBounds_toArray, List.set_cons_zero, List.set_cons_succ, i64_w, i32_w]
                rfl
              exact norm_ (by first | (simp only [putAll, Act.put, List.setIfInBounds_toArray, List.set_cons_zero, List.set_cons_succ]; done) | (simp only [putAll, Act.put, List.setIfInBounds_toArray, List.set_cons_zero, List.set_cons_succ]; rfl)) (hCont ((.slice Avc r0.length cvc), (.slice Avm zs.length cvm), gx) _ ⟨(blk_cell BMr.out 2).trans rfl, HVC.out, HVM.out, HGX.out, HGW.out, hcm.out, hcx.out, hmx.out, HBr.out⟩)
            · skip
              refine box_step (by rfl) (N := 10) rfl (cs := #[.slice none 0 0, .slice none 0 0]) (t := 106) ?_ ?_
              · first | (go_simp; done) | (go_simp; rfl)
              intro gx hgx wx1 hbox hb
              have hcx : Aside0 (∀ k, ((.slice Avc r0.length cvc) : Value).ownBlock = some k → k ≠ gx) := ⟨fun k h1 h2 => by have := Kd.R_lt HVC.out k h1; omega⟩
              have HVC2 := Aside0.mk (Kd.R_below HVC.out hb)
              clear HVC
              have HVC := HVC2
              clear HVC2
              have HGX := Aside0.mk hbox
              have HGW : Aside0 (wr.heap.size ≤ gx) := ⟨by rw [hgx]; exact (below_size HBr.out)⟩
              have HB2 := Aside0.mk (below_step HBr.out hb)
              have BM2 := Aside0.mk (blk_below BMr.out hb)
              clear HBr BMr
              have HBr := HB2
              have BMr := BM2
              clear HB2 BM2
              refine hK.out _ _ ((blk_cell BMr.out 2).trans rfl) (fun hHeld => ?_)
              clear hK K
              refine norm_ (a' := ?_) ?_ ?_
              rotate_left
              · show Act.put _ (some 10) _ = _
                simp only [Act.put, List.setIfInBounds_toArray, List.set_cons_zero, List.set_cons_succ, i64_w, i32_w]
                rfl
              refine one_ (i := 5) (N := some 29) #[true, true, true, true, true, true, false, true, false] rfl rfl (by kernel_rfl) (by decide) (fun K hK => ?_)
              refine Kd.R_make_step (Kd.int .i64) _ 2 (by rfl) (N := 29) rfl 35 _ _ rfl (l0_2.length : Int) rfl rfl Try.underlying35 (.int .i64 0) 8 info2 rfl (by decide) (by omega) 0 (ok := fun _ => True) (okp := fun _ => True) rfl (fun _ hk => hk) trivial (by omega) (by have := CC.out.2.2; simp only [Int.toNat_natCast]; omega) (Below.refl _ _) (Nat.le_refl _) ?_
              intro vm wm17 ho hb hg_ hnew_
              clear hg_ hnew_
              rw [Int.toNat_natCast, ← HZS.out] at ho
              obtain ⟨Avm, cvm, evm⟩ := Kd.R_slice ho
              subst evm
              have hcm : Aside0 (∀ k, ((.slice Avc r0.length cvc) : Value).ownBlock = some k → ((.slice Avm zs.length cvm) : Value).ownBlock ≠ some k) := ⟨fun k h1 h2 => by have := Kd.R_lt HVC.out k h1; have := Kd.R_base ho k h2; omega⟩
              have HVC2 := Aside0.mk (Kd.R_below HVC.out hb)
              clear HVC
              have HVC := HVC2
              clear HVC2
              have hmx : Aside0 (∀ k, ((.slice Avm zs.length cvm) : Value).ownBlock = some k → k ≠ gx) := ⟨fun k h1 h2 => by have := blk_lt HGX.out; have := Kd.R_base ho k h1; omega⟩
              have HGX2 := Aside0.mk (blk_below HGX.out hb)
              clear HGX
              have HGX := HGX2
              clear HGX2
              have HVM : Aside0 (Kd.R (Kd.int .i64) 2 wm17 wr.heap.size (fun _ => True) (.slice Avm zs.length cvm) zs) := ⟨Kd.R_lower ho (below_size HBr.out)⟩
              have HB2 := Aside0.mk (below_step HBr.out hb)
              have BM2 := Aside0.mk (blk_below BMr.out hb)
              clear HBr BMr
              have HBr := HB2
              have BMr := BM2
              clear HB2 BM2
              refine hK.out _ _ ((blk_cell BMr.out 2).trans rfl) (fun hHeld => ?_)
              clear hK K
              refine norm_ (a' := ?_) ?_ ?_
              rotate_left
              · show Act.put _ (some 29) _ = _
                simp only [Act.put, List.setIfInBounds_toArray, List.set_cons_zero, List.set_cons_succ, i64_w, i32_w]
                rfl
              refine pure_ (i := 6) (N := some 30) (v := ?_) (a' := ?_) #[true, true, true, true, true, true, true, true, false] rfl rfl (by kernel_rfl) (fun _ _ _ h => h) (Or.inl ⟨by rfl, ?_⟩) ?_ ?_
              rotate_left
              · intro w'
                first | (go_simp; with_reducible rfl) | (simp [go_sem, Instr.field, asAgg] <;> with_reducible rfl)
              rotate_left
              · simp only [Act.put, List.setIfInBounds_toArray, List.set_cons_zero, List.set_cons_succ, i64_w, i32_w]
                rfl
              exact norm_ (by first | (simp only [putAll, Act.put, List.setIfInBounds_toArray, List.set_cons_zero, List.set_cons_succ]; done) | (simp only [putAll, Act.put, List.setIfInBounds_toArray, List.set_cons_zero, List.set_cons_succ]; rfl)) (hCont ((.slice Avc r0.length cvc), (.slice Avm zs.length cvm), gx) _ ⟨(blk_cell BMr.out 2).trans rfl, HVC.out, HVM.out, HGX.out, HGW.out, hcm.out, hcx.out, hmx.out, HBr.out⟩)
          · skip
            refine Kd.R_make_step (Kd.int .i64) _ 2 (by rfl) (N := 29) rfl 35 _ _ rfl (l0_2.length : Int) rfl rfl Try.underlying35 (.int .i64 0) 8 info2 rfl (by decide) (by omega) 0 (ok := fun _ => True) (okp := fun _ => True) rfl (fun _ hk => hk) trivial (by omega) (by have := CC.out.2.2; simp only [Int.toNat_natCast]; omega) (Below.refl _ _) (Nat.le_refl _) ?_
            intro vm wm ho hb hg_ hnew_
            clear hg_ hnew_
            rw [Int.toNat_natCast, ← HZS.out] at ho
            obtain ⟨Avm, cvm, evm⟩ := Kd.R_slice ho
            subst evm
            have HVM : Aside0 (Kd.R (Kd.int .i64) 2 wm wr.heap.size (fun _ => True) (.slice Avm zs.length cvm) zs) := ⟨Kd.R_lower ho (below_size HBr.out)⟩
            have HB2 := Aside0.mk (below_step HBr.out hb)
            have BM2 := Aside0.mk (blk_below BMr.out hb)
            clear HBr BMr
            have HBr := HB2
            have BMr := BM2
            clear HB2 BM2
            refine hK.out _ _ ((blk_cell BMr.out 2).trans rfl) (fun hHeld => ?_)
            clear hK K
            refine norm_ (a' := ?_) ?_ ?_
            rotate_left
            · show Act.put _ (some 29) _ = _
              simp only [Act.put, List.setIfInBounds_toArray, List.set_cons_zero, List.set_cons_succ, i64_w, i32_w]
              rfl
            refine two_ (i := 1) (j := 7) (Ni := some 25) (Nj := some 10) #[true, true, true, true, true, true, false, false, false] #[true, false, true, true, true, true, false, true, false] rfl rfl rfl rfl (by kernel_rfl) (by decide) (by decide) (fun K hK => ?_) (fun K hK => ?_)
            · skip
              refine goes_ Try.func64 (by kernel_rfl) rfl #[.slice Ar (rd_L1 l0_2 i).length cr] (by rfl) rfl rfl (by simp only [List.map_toArray, List.map_cons, List.map_nil]; rfl) ?_
              with_reducible refine (slices_Clone_int64_int64.calls Ar cr (rd_L1 l0_2 i) r0 _ (Kd.C_below HIR.out HBr.out) HLR.out B1.out).mono ?_
              rintro e wc5 ⟨vc, rfl, ho, hb⟩
              refine ⟨_, rfl, ?_⟩
              obtain ⟨Avc, cvc, evc⟩ := Kd.R_slice ho
              subst evc
              have hcm : Aside0 (∀ k, ((.slice Avc r0.length cvc) : Value).ownBlock = some k → ((.slice Avm zs.length cvm) : Value).ownBlock ≠ some k) := ⟨fun k h1 h2 => by have := Kd.R_lt HVM.out k h2; have := Kd.R_base ho k h1; omega⟩
              have HVM2 := Aside0.mk (Kd.R_below HVM.out hb)
              clear HVM
              have HVM := HVM2
              clear HVM2
              have HVC : Aside0 (Kd.R (Kd.int .i64) 2 wc5 wr.heap.size (fun _ => True) (.slice Avc r0.length cvc) r0) := ⟨Kd.R_lower ho (below_size HBr.out)⟩
              have HB2 := Aside0.mk (below_step HBr.out hb)
              have BM2 := Aside0.mk (blk_below BMr.out hb)
              clear HBr BMr
              have HBr := HB2
              have BMr := BM2
              clear HB2 BM2
              refine hK.out _ _ ((blk_cell BMr.out 2).trans rfl) (fun hHeld => ?_)
              clear hK K
              refine norm_ (a' := ?_) ?_ ?_
              rotate_left
              · show Act.put _ (some 25) _ = _
                simp only [Act.put, List.setIfInBounds_toArray, List.set_cons_zero, List.set_cons_succ, i64_w, i32_w]
                rfl
              refine pure_ (i := 6) (N := some 30) (v := ?_) (a' := ?_) #[true, true, true, true, true, true, true, false, false] rfl rfl (by kernel_rfl) (fun _ _ _ h => h) (Or.inl ⟨by rfl, ?_⟩) ?_ ?_
              rotate_left
              · intro w'
                first | (go_simp; with_reducible rfl) | (simp [go_sem, Instr.field, asAgg] <;> with_reducible rfl)
              rotate_left
              · simp only [Act.put, List.setIfInBounds_toArray, List.set_cons_zero, List.set_cons_succ, i64_w, i32_w]
                rfl
              refine one_ (i := 7) (N := some 10) #[true, true, true, true, true, true, true, true, false] rfl rfl (by kernel_rfl) (by decide) (fun K hK => ?_)
              refine box_step (by rfl) (N := 10) rfl (cs := #[.slice none 0 0, .slice none 0 0]) (t := 106) ?_ ?_
              · first | (go_simp; done) | (go_simp; rfl)
              intro gx hgx wx51 hbox hb
              have hmx : Aside0 (∀ k, ((.slice Avm zs.length cvm) : Value).ownBlock = some k → k ≠ gx) := ⟨fun k h1 h2 => by have := Kd.R_lt HVM.out k h1; omega⟩
              have HVM2 := Aside0.mk (Kd.R_below HVM.out hb)
              clear HVM
              have HVM := HVM2
              clear HVM2
              have hcx : Aside0 (∀ k, ((.slice Avc r0.length cvc) : Value).ownBlock = some k → k ≠ gx) := ⟨fun k h1 h2 => by have := Kd.R_lt HVC.out k h1; omega⟩
              have HVC2 := Aside0.mk (Kd.R_below HVC.out hb)
              clear HVC
              have HVC := HVC2
              clear HVC2
              have HGX := Aside0.mk hbox
              have HGW : Aside0 (wr.heap.size ≤ gx) := ⟨by rw [hgx]; exact (below_size HBr.out)⟩
              have HB2 := Aside0.mk (below_step HBr.out hb)
              have BM2 := Aside0.mk (blk_below BMr.out hb)
              clear HBr BMr
              have HBr := HB2
              have BMr := BM2
              clear HB2 BM2
              refine hK.out _ _ ((blk_cell BMr.out 2).trans rfl) (fun hHeld => ?_)
              clear hK K
              refine norm_ (a' := ?_) ?_ ?_
              rotate_left
              · show Act.put _ (some 10) _ = _
                simp only [Act.put, List.setIfInBounds_toArray, List.set_cons_zero, List.set_cons_succ, i64_w, i32_w]
                rfl
              exact norm_ (by first | (simp only [putAll, Act.put, List.setIfInBounds_toArray, List.set_cons_zero, List.set_cons_succ]; done) | (simp only [putAll, Act.put, List.setIfInBounds_toArray, List.set_cons_zero, List.set_cons_succ]; rfl)) (hCont ((.slice Avc r0.length cvc), (.slice Avm zs.length cvm), gx) _ ⟨(blk_cell BMr.out 2).trans rfl, HVC.out, HVM.out, HGX.out, HGW.out, hcm.out, hcx.out, hmx.out, HBr.out⟩)
            · skip
              refine box_step (by rfl) (N := 10) rfl (cs := #[.slice none 0 0, .slice none 0 0]) (t := 106) ?_ ?_
              · first | (go_simp; done) | (go_simp; rfl)
              intro gx hgx wx5 hbox hb
              have hmx : Aside0 (∀ k, ((.slice Avm zs.length cvm) : Value).ownBlock = some k → k ≠ gx) := ⟨fun k h1 h2 => by have := Kd.R_lt HVM.out k h1; omega⟩
              have HVM2 := Aside0.mk (Kd.R_below HVM.out hb)
              clear HVM
              have HVM := HVM2
              clear HVM2
              have HGX := Aside0.mk hbox
              have HGW : Aside0 (wr.heap.size ≤ gx) := ⟨by rw [hgx]; exact (below_size HBr.out)⟩
              have HB2 := Aside0.mk (below_step HBr.out hb)
              have BM2 := Aside0.mk (blk_below BMr.out hb)
              clear HBr BMr
              have HBr := HB2
              have BMr := BM2
              clear HB2 BM2
              refine hK.out _ _ ((blk_cell BMr.out 2).trans rfl) (fun hHeld => ?_)
              clear hK K
              refine norm_ (a' := ?_) ?_ ?_
              rotate_left
              · show Act.put _ (some 10) _ = _
                simp only [Act.put, List.setIfInBounds_toArray, List.set_cons_zero, List.set_cons_succ, i64_w, i32_w]
                rfl
              refine one_ (i := 1) (N := some 25) #[true, true, true, true, true, true, false, true, false] rfl rfl (by kernel_rfl) (by decide) (fun K hK => ?_)
              refine goes_ Try.func64 (by kernel_rfl) rfl #[.slice Ar (rd_L1 l0_2 i).length cr] (by rfl) rfl rfl (by simp only [List.map_toArray, List.map_cons, List.map_nil]; rfl) ?_
              with_reducible refine (slices_Clone_int64_int64.calls Ar cr (rd_L1 l0_2 i) r0 _ (Kd.C_below HIR.out HBr.out) HLR.out B1.out).mono ?_
              rintro e wc57 ⟨vc, rfl, ho, hb⟩
              refine ⟨_, rfl, ?_⟩
              obtain ⟨Avc, cvc, evc⟩ := Kd.R_slice ho
              subst evc
              have hcm : Aside0 (∀ k, ((.slice Avc r0.length cvc) : Value).ownBlock = some k → ((.slice Avm zs.length cvm) : Value).ownBlock ≠ some k) := ⟨fun k h1 h2 => by have := Kd.R_lt HVM.out k h2; have := Kd.R_base ho k h1; omega⟩
              have HVM2 := Aside0.mk (Kd.R_below HVM.out hb)
              clear HVM
              have HVM := HVM2
              clear HVM2
              have hcx : Aside0 (∀ k, ((.slice Avc r0.length cvc) : Value).ownBlock = some k → k ≠ gx) := ⟨fun k h1 h2 => by have := blk_lt HGX.out; have := Kd.R_base ho k h1; omega⟩
              have HGX2 := Aside0.mk (blk_below HGX.out hb)
              clear HGX
              have HGX := HGX2
              clear HGX2
              have HVC : Aside0 (Kd.R (Kd.int .i64) 2 wc57 wr.heap.size (fun _ => True) (.slice Avc r0.length cvc) r0) := ⟨Kd.R_lower ho (below_size HBr.out)⟩
              have HB2 := Aside0.mk (below_step HBr.out hb)
              have BM2 := Aside0.mk (blk_below BMr.out hb)
              clear HBr BMr
              have HBr := HB2
              have BMr := BM2
              clear HB2 BM2
              refine hK.out _ _ ((blk_cell BMr.out 2).trans rfl) (fun hHeld => ?_)
              clear hK K
              refine norm_ (a' := ?_) ?_ ?_
              rotate_left
              · show Act.put _ (some 25) _ = _
                simp only [Act.put, List.setIfInBounds_toArray, List.set_cons_zero, List.set_cons_succ, i64_w, i32_w]
                rfl
              refine pure_ (i := 6) (N := some 30) (v := ?_) (a' := ?_) #[true, true, true, true, true, true, true, true, false] rfl rfl (by kernel_rfl) (fun _ _ _ h => h) (Or.inl ⟨by rfl, ?_⟩) ?_ ?_
              rotate_left
              · intro w'
                first | (go_simp; with_reducible rfl) | (simp [go_sem, Instr.field, asAgg] <;> with_reducible rfl)
              rotate_left
              · simp only [Act.put, List.setIfInBounds_toArray, List.set_cons_zero, List.set_cons_succ, i64_w, i32_w]
                rfl
              exact norm_ (by first | (simp only [putAll, Act.put, List.setIfInBounds_toArray, List.set_cons_zero, List.set_cons_succ]; done) | (simp only [putAll, Act.put, List.setIfInBounds_toArray, List.set_cons_zero, List.set_cons_succ]; rfl)) (hCont ((.slice Avc r0.length cvc), (.slice Avm zs.length cvm), gx) _ ⟨(blk_cell BMr.out 2).trans rfl, HVC.out, HVM.out, HGX.out, HGW.out, hcm.out, hcx.out, hmx.out, HBr.out⟩)
          · skip
            refine box_step (by rfl) (N := 10) rfl (cs := #[.slice none 0 0, .slice none 0 0]) (t := 106) ?_ ?_
            · first | (go_simp; done) | (go_simp; rfl)
            intro gx hgx wx hbox hb
            have HGX := Aside0.mk hbox
            have HGW : Aside0 (wr.heap.size ≤ gx) := ⟨by rw [hgx]; exact (below_size HBr.out)⟩
            have HB2 := Aside0.mk (below_step HBr.out hb)
            have BM2 := Aside0.mk (blk_below BMr.out hb)
            clear HBr BMr
            have HBr := HB2
            have BMr := BM2
            clear HB2 BM2
            refine hK.out _ _ ((blk_cell BMr.out 2).trans rfl) (fun hHeld => ?_)
            clear hK K
            refine norm_ (a' := ?_) ?_ ?_
            rotate_left
            · show Act.put _ (some 10) _ = _
              simp only [Act.put, List.setIfInBounds_toArray, List.set_cons_zero, List.set_cons_succ, i64_w, i32_w]
              rfl
            refine two_ (i := 1) (j := 5) (Ni := some 25) (Nj := some 29) #[true, true, true, true, true, false, false, true, false] #[true, false, true, true, true, true, false, true, false] rfl rfl rfl rfl (by kernel_rfl) (by decide) (by decide) (fun K hK => ?_) (fun K hK => ?_)
            · skip
              refine goes_ Try.func64 (by kernel_rfl) rfl #[.slice Ar (rd_L1 l0_2 i).length cr] (by rfl) rfl rfl (by simp only [List.map_toArray, List.map_cons, List.map_nil]; rfl) ?_
              with_reducible refine (slices_Clone_int64_int64.calls Ar cr (rd_L1 l0_2 i) r0 _ (Kd.C_below HIR.out HBr.out) HLR.out B1.out).mono ?_
              rintro e wc7 ⟨vc, rfl, ho, hb⟩
              refine ⟨_, rfl, ?_⟩
              obtain ⟨Avc, cvc, evc⟩ := Kd.R_slice ho
              subst evc
              have hcx : Aside0 (∀ k, ((.slice Avc r0.length cvc) : Value).ownBlock = some k → k ≠ gx) := ⟨fun k h1 h2 => by have := blk_lt HGX.out; have := Kd.R_base ho k h1; omega⟩
              have HGX2 := Aside0.mk (blk_below HGX.out hb)
              clear HGX
              have HGX := HGX2
              clear HGX2
              have HVC : Aside0 (Kd.R (Kd.int .i64) 2 wc7 wr.heap.size (fun _ => True) (.slice Avc r0.length cvc) r0) := ⟨Kd.R_lower ho (below_size HBr.out)⟩
              have HB2 := Aside0.mk (below_step HBr.out hb)
              have BM2 := Aside0.mk (blk_below BMr.out hb)
              clear HBr BMr
              have HBr := HB2
              have BMr := BM2
              clear HB2 BM2
              refine hK.out _ _ ((blk_cell BMr.out 2).trans rfl) (fun hHeld => ?_)
              clear hK K
              refine norm_ (a' := ?_) ?_ ?_
              rotate_left
              · show Act.put _ (some 25) _ = _
                simp only [Act.put, List.setIfInBounds_toArray, List.set_cons_zero, List.set_cons_succ, i64_w, i32_w]
                rfl
              refine one_ (i := 5) (N := some 29) #[true, true, true, true, true, true, false, true, false] rfl rfl (by kernel_rfl) (by decide) (fun K hK => ?_)
              refine Kd.R_make_step (Kd.int .i64) _ 2 (by rfl) (N := 29) rfl 35 _ _ rfl (l0_2.length : Int) rfl rfl Try.underlying35 (.int .i64 0) 8 info2 rfl (by decide) (by omega) 0 (ok := fun _ => True) (okp := fun _ => True) rfl (fun _ hk => hk) trivial (by omega) (by have := CC.out.2.2; simp only [Int.toNat_natCast]; omega) (Below.refl _ _) (Nat.le_refl _) ?_
              intro vm wm71 ho hb hg_ hnew_
              clear hg_ hnew_
              rw [Int.toNat_natCast, ← HZS.out] at ho
              obtain ⟨Avm, cvm, evm⟩ := Kd.R_slice ho
              subst evm
              have hmx : Aside0 (∀ k, ((.slice Avm zs.length cvm) : Value).ownBlock = some k → k ≠ gx) := ⟨fun k h1 h2 => by have := blk_lt HGX.out; have := Kd.R_base ho k h1; omega⟩
              have HGX2 := Aside0.mk (blk_below HGX.out hb)
              clear HGX
              have HGX := HGX2
              clear HGX2
              have hcm : Aside0 (∀ k, ((.slice Avc r0.length cvc) : Value).ownBlock = some k → ((.slice Avm zs.length cvm) : Value).ownBlock ≠ some k) := ⟨fun k h1 h2 => by have := Kd.R_lt HVC.out k h1; have := Kd.R_base ho k h2; omega⟩
              have HVC2 := Aside0.mk (Kd.R_below HVC.out hb)
              clear HVC
              have HVC := HVC2
              clear HVC2
              have HVM : Aside0 (Kd.R (Kd.int .i64) 2 wm71 wr.heap.size (fun _ => True) (.slice Avm zs.length cvm) zs) := ⟨Kd.R_lower ho (below_size HBr.out)⟩
              have HB2 := Aside0.mk (below_step HBr.out hb)
              have BM2 := Aside0.mk (blk_below BMr.out hb)
              clear HBr BMr
              have HBr := HB2
              have BMr := BM2
              clear HB2 BM2
              refine hK.out _ _ ((blk_cell BMr.out 2).trans rfl) (fun hHeld => ?_)
              clear hK K
              refine norm_ (a' := ?_) ?_ ?_
              rotate_left
              · show Act.put _ (some 29) _ = _
                simp only [Act.put, List.setIfInBounds_toArray, List.set_cons_zero, List.set_cons_succ, i64_w, i32_w]
                rfl
              refine pure_ (i := 6) (N := some 30) (v := ?_) (a' := ?_) #[true, true, true, true, true, true, true, true, false] rfl rfl (by kernel_rfl) (fun _ _ _ h => h) (Or.inl ⟨by rfl, ?_⟩) ?_ ?_
              rotate_left
              · intro w'
                first | (go_simp; with_reducible rfl) | (simp [go_sem, Instr.field, asAgg] <;> with_reducible rfl)
              rotate_left
              · simp only [Act.put, List.setIfInBounds_toArray, List.set_cons_zero, List.set_cons_succ, i64_w, i32_w]
                rfl
              exact norm_ (by first | (simp only [putAll, Act.put, List.setIfInBounds_toArray, List.set_cons_zero, List.set_cons_succ]; done) | (simp only [putAll, Act.put, List.setIfInBounds_toArray, List.set_cons_zero, List.set_cons_succ]; rfl)) (hCont ((.slice Avc r0.length cvc), (.slice Avm zs.length cvm), gx) _ ⟨(blk_cell BMr.out 2).trans rfl, HVC.out, HVM.out, HGX.out, HGW.out, hcm.out, hcx.out, hmx.out, HBr.out⟩)
            · skip
              refine Kd.R_make_step (Kd.int .i64) _ 2 (by rfl) (N := 29) rfl 35 _ _ rfl (l0_2.length : Int) rfl rfl Try.underlying35 (.int .i64 0) 8 info2 rfl (by decide) (by omega) 0 (ok := fun _ => True) (okp := fun _ => True) rfl (fun _ hk => hk) trivial (by omega) (by have := CC.out.2.2; simp only [Int.toNat_natCast]; omega) (Below.refl _ _) (Nat.le_refl _) ?_
              intro vm wm7 ho hb hg_ hnew_
              clear hg_ hnew_
              rw [Int.toNat_natCast, ← HZS.out] at ho
              obtain ⟨Avm, cvm, evm⟩ := Kd.R_slice ho
              subst evm
              have hmx : Aside0 (∀ k, ((.slice Avm zs.length cvm) : Value).ownBlock = some k → k ≠ gx) := ⟨fun k h1 h2 => by have := blk_lt HGX.out; have := Kd.R_base ho k h1; omega⟩
              have HGX2 := Aside0.mk (blk_below HGX.out hb)
              clear HGX
              have HGX := HGX2
              clear HGX2
              have HVM : Aside0 (Kd.R (Kd.int .i64) 2 wm7 wr.heap.size (fun _ => True) (.slice Avm zs.length cvm) zs) := ⟨Kd.R_lower ho (below_size HBr.out)⟩
              have HB2 := Aside0.mk (below_step HBr.out hb)
              have BM2 := Aside0.mk (blk_below BMr.out hb)
              clear HBr BMr
              have HBr := HB2
              have BMr := BM2
              clear HB2 BM2
              refine hK.out _ _ ((blk_cell BMr.out 2).trans rfl) (fun hHeld => ?_)
              clear hK K
              refine norm_ (a' := ?_) ?_ ?_
              rotate_left
              · show Act.put _ (some 29) _ = _
                simp only [Act.put, List.setIfInBounds_toArray, List.set_cons_zero, List.set_cons_succ, i64_w, i32_w]
                rfl
              refine one_ (i := 1) (N := some 25) #[true, true, true, true, true, true, false, true, false] rfl rfl (by kernel_rfl) (by decide) (fun K hK => ?_)
              refine goes_ Try.func64 (by kernel_rfl) rfl #[.slice Ar (rd_L1 l0_2 i).length cr] (by rfl) rfl rfl (by simp only [List.map_toArray, List.map_cons, List.map_nil]; rfl) ?_
              with_reducible refine (slices_Clone_int64_int64.calls Ar cr (rd_L1 l0_2 i) r0 _ (Kd.C_below HIR.out HBr.out) HLR.out B1.out).mono ?_
              rintro e wc75 ⟨vc, rfl, ho, hb⟩
              refine ⟨_, rfl, ?_⟩
              obtain ⟨Avc, cvc, evc⟩ := Kd.R_slice ho
              subst evc
              have hcx : Aside0 (∀ k, ((.slice Avc r0.length cvc) : Value).ownBlock = some k → k ≠ gx) := ⟨fun k h1 h2 => by have := blk_lt HGX.out; have := Kd.R_base ho k h1; omega⟩
              have HGX2 := Aside0.mk (blk_below HGX.out hb)
              clear HGX
              have HGX := HGX2
              clear HGX2
              have hcm : Aside0 (∀ k, ((.slice Avc r0.length cvc) : Value).ownBlock = some k → ((.slice Avm zs.length cvm) : Value).ownBlock ≠ some k) := ⟨fun k h1 h2 => by have := Kd.R_lt HVM.out k h2; have := Kd.R_base ho k h1; omega⟩
              have HVM2 := Aside0.mk (Kd.R_below HVM.out hb)
              clear HVM
              have HVM := HVM2
              clear HVM2
              have HVC : Aside0 (Kd.R (Kd.int .i64) 2 wc75 wr.heap.size (fun _ => True) (.slice Avc r0.length cvc) r0) := ⟨Kd.R_lower ho (below_size HBr.out)⟩
              have HB2 := Aside0.mk (below_step HBr.out hb)
              have BM2 := Aside0.mk (blk_below BMr.out hb)
              clear HBr BMr
              have HBr := HB2
              have BMr := BM2
              clear HB2 BM2
              refine hK.out _ _ ((blk_cell BMr.out 2).trans rfl) (fun hHeld => ?_)
              clear hK K
              refine norm_ (a' := ?_) ?_ ?_
              rotate_left
              · show Act.put _ (some 25) _ = _
                simp only [Act.put, List.setIfInBounds_toArray, List.set_cons_zero, List.set_cons_succ, i64_w, i32_w]
                rfl
              refine pure_ (i := 6) (N := some 30) (v := ?_) (a' := ?_) #[true, true, true, true, true, true, true, true, false] rfl rfl (by kernel_rfl) (fun _ _ _ h => h) (Or.inl ⟨by rfl, ?_⟩) ?_ ?_
              rotate_left
              · intro w'
                first | (go_simp; with_reducible rfl) | (simp [go_sem, Instr.field, asAgg] <;> with_reducible rfl)
              rotate_left
              · simp only [Act.put, List.setIfInBounds_toArray, List.set_cons_zero, List.set_cons_succ, i64_w, i32_w]
                rfl
              exact norm_ (by first | (simp only [putAll, Act.put, List.setIfInBounds_toArray, List.set_cons_zero, List.set_cons_succ]; done) | (simp only [putAll, Act.put, List.setIfInBounds_toArray, List.set_cons_zero, List.set_cons_succ]; rfl)) (hCont ((.slice Avc r0.length cvc), (.slice Avm zs.length cvm), gx) _ ⟨(blk_cell BMr.out 2).trans rfl, HVC.out, HVM.out, HGX.out, HGW.out, hcm.out, hcx.out, hmx.out, HBr.out⟩)
        rintro ⟨vc, vm, gx⟩ w6 ⟨hHeld0, hvc, hvm, hgx, hgw, hcm, hcx, hmx, hbr⟩
        obtain ⟨Avc, cvc, evc⟩ := Kd.R_slice hvc
        subst evc
        obtain ⟨Avm, cvm, evm⟩ := Kd.R_slice hvm
        subst evm
        have hHeld : w6.cell? ⟨w.heap.size, 2, none⟩ = some (.slice (some adr) l0_2.length c0_2) := hHeld0
        have HVC := Aside0.mk hvc
        have HVM := Aside0.mk hvm
        have HGX := Aside0.mk hgx
        have HGW := Aside0.mk hgw
        have HCM := Aside0.mk hcm
        have HCX := Aside0.mk hcx
        have HMX := Aside0.mk hmx
        have HBr := Aside0.mk hbr
        have hz0 : w6.cell? ⟨gx, 0, none⟩ = some (.slice none 0 0) := (blk_cell HGX.out 0).trans rfl
        have hz1 : w6.cell? ⟨gx, 1, none⟩ = some (.slice none 0 0) := (blk_cell HGX.out 1).trans rfl
        have hzf0 := blk_frozen HGX.out 0
        have hzf1 := blk_frozen HGX.out 1
        clear hHeld0 hvc hvm hgx hgw hcm hcx hmx hbr
        refine norm_ (a' := ?_) ?_ ?_
        rotate_left
        · simp only [putAll, Act.put, List.setIfInBounds_toArray, List.set_cons_zero, List.set_cons_succ]
          rfl
        refine last_ (i := 8) (N := none) #[true, true, true, true, true, true, true, true, true] rfl rfl (by kernel_rfl) (by decide) (fun K hK => ?_)
        refine skip_ (w1 := ?_) (by rfl) rfl ?_ ?_
        rotate_left
        · go_simp
          rfl
        refine hK.out _ _ ?_
        clear hK K
        refine done_ (by kernel_rfl) ?_
        clear hHeld hz0 hz1 hzf0 hzf1
        have X7 := Aside0.mk ((CombX.mk' HVC.out HVM.out HGX.out HBr.out HCM.out HCX.out HMX.out HGW.out).put (.slice Avc r0.length cvc) (.slice Avm zs.length cvm))
        clear HVC HVM HGX HBr HCM HCX HMX HGW
        generalize (w6.setCell ⟨gx, 0, none⟩ (.slice Avc r0.length cvc)).setCell ⟨gx, 1, none⟩ (.slice Avm zs.length cvm) = w7 at X7 ⊢
        obtain ⟨bm, cbm, em, _, _, _⟩ := Kd.R_form X7.out.hf (by have := CC.out; rw [HZS.out, List.length_replicate]; omega)
        injection em with em1 em2 em3
        subst em1
        clear em2 em3
        obtain ⟨Ap, cp, ep, lp, hPC⟩ := combParts HPt.out
        subst ep
        have HPC := Aside0.mk hPC
        clear lp hPC
        have hzl : i < (zs.length : Int) := by rw [HZS.out, List.length_replicate]; exact CC.out.2.1
        obtain ⟨hc7, hf7⟩ := Kd.R_celln 0 X7.out.hf i CC.out.1 hzl
        have hx0 : w7.cell? ⟨gx, 0, none⟩ = some (.slice Avc r0.length cvc) := (blk_cell X7.out.box 0).trans rfl
        have hx1 : w7.cell? ⟨gx, 1, none⟩ = some (.slice (some ⟨bm, 0, none⟩) zs.length cvm) := (blk_cell X7.out.box 1).trans rfl
        have hbg : bm ≠ gx := X7.out.nf bm rfl
        have hgb : gx ≠ bm := Ne.symm hbg
        have z1b : decide (i < (zs.length : Int)) = true := decide_eq_true hzl
        replace hzl := eq_true hzl
        have eg : ∀ (args : Array Value) (w : World), (callFunc 101 args).run Try.prog w = .ok (.enter 101 args) w := enters_of Try.func101 (by kernel_rfl) rfl
        have B2z : Aside0 (combLess k1 a0_0 parts r0 (zs.set i.toNat 1) 0 = some (x.1, x.2)) := ⟨by rw [HZS.out]; exact B2.out⟩
        by_cases cf : 0 ≤ f
        · have H := H1.out
          rw [if_pos cf] at H
          clear H1
          by_cases cg : f < (x.1.length : Int)
          case neg => rw [if_neg cg] at H; exact absurd H (by simp)
          rw [if_pos cg] at H
          replace H := Option.bind_eq_some_iff.mp H
          obtain ⟨by_, At, H⟩ := H
          have B4 := Aside0.mk At
          clear At
          replace H := Option.bind_eq_some_iff.mp H
          obtain ⟨rx2, At, H⟩ := H
          have B5 := Aside0.mk At
          clear At
          replace H := Option.bind_eq_some_iff.mp H
          obtain ⟨rf2, At, H⟩ := H
          have B6 := Aside0.mk At
          clear At
          by_cases ch : parts.length < 1048576
          case neg => rw [if_neg ch] at H; exact absurd H (by simp)
          rw [if_pos ch] at H
          have H' := Aside0.mk H
          clear H
          have CF := Aside0.mk (And.intro cf (And.intro cg ch))
          have cfb : decide (0 ≤ f) = true := decide_eq_true cf
          have cgb : decide (f < (x.1.length : Int)) = true := decide_eq_true cg
          replace cf := eq_true cf
          replace cg := eq_true cg
          clear ch
          go_wp2_with (first | (go_at_call 101; refine (combLess.calls k1 a0_0 (.int .i64 a0_1) (.slice (some adr) l0_2.length c0_2) w.heap.size gB Ap cp parts Avc (some ⟨bm, 0, none⟩) r0.length cvc zs.length cvm r0 (zs.set i.toNat 1) x.1 x.2 gx #[(.slice Avc r0.length cvc), (.slice (some ⟨bm, 0, none⟩) zs.length cvm)] 106 wr _ BM.out BB.out HPC.out ?sW ?sR ?sF ?sN ?sE ?sX ?sY B2z.out).mono ?_; (case sW => exact (X7.out.putf i 1).be); (case sR => exact Kd.R_mono (X7.out.putf i 1).hx (fun _ _ => trivial)); (case sF => exact Kd.R_mono (Kd.R_putn X7.out.hf i 1) (fun _ _ => trivial)); (case sN => exact X7.out.ne); (case sE => exact (X7.out.putf i 1).box); (case sX => exact X7.out.nx); (case sY => exact X7.out.nf); rintro e w9 ⟨rfl, hR, hF, hb, hbx⟩; have e1 := combLen hR; have e2 := combLen hF; have X9 : Aside0 (CombX wr w9 gx #[(.slice Avc x.1.length cvc), (.slice (some ⟨bm, 0, none⟩) x.2.length cvm)] Avc (some ⟨bm, 0, none⟩) cvc cvm x.1 x.2) := ⟨by have h := X7.out.less rfl rfl hR hF hb hbx; rw [e1, e2] at h; exact h⟩; rw [e1, e2]; clear hR hF hb hbx e1 e2 X7 B2 B2z hx0 hx1 hc7 hf7 hbg hgb z1b hzl; have hx0 : w9.cell? ⟨gx, 0, none⟩ = some (.slice Avc x.1.length cvc) := (blk_cell X9.out.box 0).trans rfl; have hx1 : w9.cell? ⟨gx, 1, none⟩ = some (.slice (some ⟨bm, 0, none⟩) x.2.length cvm) := (blk_cell X9.out.box 1).trans rfl; have hz0 := blk_frozen X9.out.box 0; have hz1 := blk_frozen X9.out.box 1) | (go_at_call 102; (with_reducible refine (impl_first.calls k1 Avc cvc x.1 f _ ?sC ?sL B3.out).mono ?_); (case sC => exact (X9.out.put (.slice Avc x.1.length cvc) (.slice (some ⟨bm, 0, none⟩) x.2.length cvm)).cx_); (case sL => exact X9.out.lx); rintro e w10 ⟨rfl, hb⟩; have X10 := Aside0.mk ((X9.out.put (.slice Avc x.1.length cvc) (.slice (some ⟨bm, 0, none⟩) x.2.length cvm)).below hb); clear hb X9 hx0 hx1 hz0 hz1))
          have X11 := Aside0.mk X10.out.drew
          clear X10
          obtain ⟨bx, cbx, ex, _, _, _⟩ := Kd.R_form X11.out.hx (by have := CF.out; omega)
          injection ex with ex1 ex2 ex3
          subst ex1
          clear ex2 ex3
          refine start_ (n := 9) (S := fun w' => w'.cell? ⟨w.heap.size, 0, none⟩ = some (.int .i64 a0_0) ∧ w'.cell? ⟨gx, 0, none⟩ = some (.slice (some ⟨bx, 0, none⟩) x.1.length cvc) ∧ w'.cell? ⟨bx, f.toNat, none⟩ = some (.int .i64 (rd x.1 f))) (ds := [7]) #[false, false, false, false, false, false, false, false, false] (by kernel_rfl) rfl rfl ⟨(blk_cell (blk_below BM.out X11.out.be) 0).trans rfl, (blk_cell X11.out.box 0).trans rfl, (Kd.R_celln 0 X11.out.hx f CF.out.1 CF.out.2.1).1⟩ (fun hHeld => ?_)
          generalize w10.drew = w11 at X11 hHeld ⊢
          refine pure_ (i := 0) (N := some 43) (v := ?_) (a' := ?_) #[true, false, false, false, false, false, false, false, false] rfl rfl (by kernel_rfl) (fun _ _ _ h => h) (Or.inl ⟨by rfl, ?_⟩) ?_ ?_
          rotate_left
          · intro w'
            first | (go_simp; with_reducible rfl) | (simp [go_sem, Instr.field, asAgg] <;> with_reducible rfl)
          rotate_left
          · simp only [Act.put, List.setIfInBounds_toArray, List.set_cons_zero, List.set_cons_succ, i64_w, i32_w]
            rfl
          refine pure_ (i := 2) (N := some 45) (v := ?_) (a' := ?_) #[true, false, true, false, false, false, false, false, false] rfl rfl (by kernel_rfl) (fun _ _ _ h => h) (Or.inl ⟨by rfl, ?_⟩) ?_ ?_
          rotate_left
          · intro w'
            first | (go_simp; with_reducible rfl) | (simp [go_sem, Instr.field, asAgg] <;> with_reducible rfl)
          rotate_left
          · simp only [Act.put, List.setIfInBounds_toArray, List.set_cons_zero, List.set_cons_succ, i64_w, i32_w]
            rfl
          refine pure_ (i := 4) (N := some 47) (v := ?_) (a' := ?_) #[true, false, true, false, true, false, false, false, false] rfl rfl (by kernel_rfl) (fun _ _ _ h => h) (Or.inl ⟨by rfl, ?_⟩) ?_ ?_
          rotate_left
          · intro w'
            first | (go_simp; with_reducible rfl) | (simp [go_sem, Instr.field, asAgg] <;> with_reducible rfl)
          rotate_left
          · simp only [Act.put, List.setIfInBounds_toArray, List.set_cons_zero, List.set_cons_succ, i64_w, i32_w]
            rfl
          refine take_ (i := 1) (N := some 44) (v := ?_) (a' := ?_) #[true, true, true, false, true, false, false, false, false] rfl rfl (by kernel_rfl) (fun _ _ _ h => h) (Or.inl ⟨by rfl, ?_⟩) hHeld ?_ ?_
          rotate_left
          · rintro w' ⟨s0, s1, s2⟩
            go_simp
            with_reducible rfl
          rotate_left
          · simp only [Act.put, List.setIfInBounds_toArray, List.set_cons_zero, List.set_cons_succ, i64_w, i32_w]
            rfl
          refine take_ (i := 3) (N := some 46) (v := ?_) (a' := ?_) #[true, true, true, true, true, false, false, false, false] rfl rfl (by kernel_rfl) (fun _ _ _ h => h) (Or.inl ⟨by rfl, ?_⟩) hHeld ?_ ?_
          rotate_left
          · rintro w' ⟨s0, s1, s2⟩
            go_simp
            with_reducible rfl
          rotate_left
          · simp only [Act.put, List.setIfInBounds_toArray, List.set_cons_zero, List.set_cons_succ, i64_w, i32_w]
            rfl
          refine pure_ (i := 5) (N := some 48) (v := ?_) (a' := ?_) #[true, true, true, true, true, true, false, false, false] rfl rfl (by kernel_rfl) (fun _ _ _ h => h) (Or.inl ⟨by rfl, ?_⟩) ?_ ?_
          rotate_left
          · intro w'
            first | (go_simp; with_reducible rfl) | (simp [go_sem, Instr.field, asAgg] <;> with_reducible rfl)
          rotate_left
          · simp only [Act.put, List.setIfInBounds_toArray, List.set_cons_zero, List.set_cons_succ, i64_w, i32_w]
            rfl
          refine take_ (i := 6) (N := some 49) (v := ?_) (a' := ?_) #[true, true, true, true, true, true, true, false, false] rfl rfl (by kernel_rfl) (fun _ _ _ h => h) (Or.inl ⟨by rfl, ?_⟩) hHeld ?_ ?_
          rotate_left
          · rintro w' ⟨s0, s1, s2⟩
            go_simp
            with_reducible rfl
          rotate_left
          · simp only [Act.put, List.setIfInBounds_toArray, List.set_cons_zero, List.set_cons_succ, i64_w, i32_w]
            rfl
          refine last_ (i := 7) (N := some 50) #[true, true, true, true, true, true, true, true, false] rfl rfl (by kernel_rfl) (by decide) (fun K hK => ?_)
          refine goes_ Try.func70 (by kernel_rfl) rfl #[.int .i64 a0_0, .int .i64 (rd x.1 f)] (by rfl) rfl rfl (by simp only [List.map_toArray, List.map_cons, List.map_nil]; rfl) ?_
          with_reducible refine (impl_inverse.calls k1 a0_0 (rd x.1 f) by_ _ B4.out).mono ?_
          rintro e w12 ⟨rfl, hd⟩
          refine ⟨_, rfl, ?_⟩
          have X12 := Aside0.mk (X11.out.below hd.below)
          clear X11 hd
          refine hK.out _ _ ?_
          clear hK K
          refine norm_ (a' := ?_) ?_ ?_
          rotate_left
          · show Act.put _ (some 50) _ = _
            simp only [Act.put, List.setIfInBounds_toArray, List.set_cons_zero, List.set_cons_succ, i64_w, i32_w]
            rfl
          refine pure_ (i := 8) (N := some 12) (v := ?_) (a' := ?_) #[true, true, true, true, true, true, true, true, true] rfl rfl (by kernel_rfl) (fun _ _ _ h => h) (Or.inl ⟨by rfl, ?_⟩) ?_ ?_
          rotate_left
          · intro w'
            first | (go_simp; with_reducible rfl) | (simp [go_sem, Instr.field, asAgg] <;> with_reducible rfl)
          rotate_left
          · simp only [Act.put, List.setIfInBounds_toArray, List.set_cons_zero, List.set_cons_succ, i64_w, i32_w]
            rfl
          refine done_ (by kernel_rfl) ?_
          clear hHeld
          have hm0 : w12.cell? ⟨w.heap.size, 0, none⟩ = some (.int .i64 a0_0) := (blk_cell (blk_below BM.out X12.out.be) 0).trans rfl
          have hb0 : w12.cell? ⟨gB, 0, none⟩ = some (.slice Ap parts.length cp) := (blk_cell (blk_below BB.out X12.out.be) 0).trans rfl
          have hx0 : w12.cell? ⟨gx, 0, none⟩ = some (.slice (some ⟨bx, 0, none⟩) x.1.length cvc) := (blk_cell X12.out.box 0).trans rfl
          have hx1 : w12.cell? ⟨gx, 1, none⟩ = some (.slice (some ⟨bm, 0, none⟩) x.2.length cvm) := (blk_cell X12.out.box 1).trans rfl
          go_wp2_with (first | (go_at_call 69; (with_reducible refine (impl_scaled.calls k1 a0_0 (fun k_ => some k_ = ((.slice (some ⟨bx, 0, none⟩) x.1.length cvc) : Value).ownBlock) (.slice (some ⟨bx, 0, none⟩) x.1.length cvc) x.1 by_ rx2 wr _ ?sB ?sR B5.out).mono ?_); (case sB => exact X12.out.be); (case sR => exact X12.out.hx); rintro e w13 ⟨rfl, hR, hb, hK⟩; have e1 := combLen hR; have X13 : Aside0 (CombX wr w13 gx #[(.slice (some ⟨bx, 0, none⟩) rx2.length cvc), (.slice (some ⟨bm, 0, none⟩) x.2.length cvm)] (some ⟨bx, 0, none⟩) (some ⟨bm, 0, none⟩) cvc cvm rx2 x.2) := ⟨by have h := X12.out.scx hR hb hK; rw [e1] at h; exact h⟩; rw [e1]; clear hR hb hK e1 X12 B5 hm0 hb0 hx0 hx1; have hm0 : w13.cell? ⟨w.heap.size, 0, none⟩ = some (.int .i64 a0_0) := (blk_cell (blk_below BM.out X13.out.be) 0).trans rfl; have hb0 : w13.cell? ⟨gB, 0, none⟩ = some (.slice Ap parts.length cp) := (blk_cell (blk_below BB.out X13.out.be) 0).trans rfl; have hx0 : w13.cell? ⟨gx, 0, none⟩ = some (.slice (some ⟨bx, 0, none⟩) rx2.length cvc) := (blk_cell X13.out.box 0).trans rfl; have hx1 : w13.cell? ⟨gx, 1, none⟩ = some (.slice (some ⟨bm, 0, none⟩) x.2.length cvm) := (blk_cell X13.out.box 1).trans rfl) | (go_at_call 69; (with_reducible refine (impl_scaled.calls k1 a0_0 (fun k_ => some k_ = ((.slice (some ⟨bm, 0, none⟩) x.2.length cvm) : Value).ownBlock) (.slice (some ⟨bm, 0, none⟩) x.2.length cvm) x.2 by_ rf2 wr _ ?sB ?sR B6.out).mono ?_); (case sB => exact X13.out.be); (case sR => exact X13.out.hf); rintro e w14 ⟨rfl, hR, hb, hK⟩; have e1 := combLen hR; have X14 : Aside0 (CombX wr w14 gx #[(.slice (some ⟨bx, 0, none⟩) rx2.length cvc), (.slice (some ⟨bm, 0, none⟩) rf2.length cvm)] (some ⟨bx, 0, none⟩) (some ⟨bm, 0, none⟩) cvc cvm rx2 rf2) := ⟨by have h := X13.out.scf hR hb hK; rw [e1] at h; exact h⟩; rw [e1]; clear hR hb hK e1 X13 B6 hm0 hb0 hx0 hx1; have hm0 : w14.cell? ⟨w.heap.size, 0, none⟩ = some (.int .i64 a0_0) := (blk_cell (blk_below BM.out X14.out.be) 0).trans rfl; have hb0 : w14.cell? ⟨gB, 0, none⟩ = some (.slice Ap parts.length cp) := (blk_cell (blk_below BB.out X14.out.be) 0).trans rfl; have hx0 : w14.cell? ⟨gx, 0, none⟩ = some (.slice (some ⟨bx, 0, none⟩) rx2.length cvc) := (blk_cell X14.out.box 0).trans rfl; have hx1 : w14.cell? ⟨gx, 1, none⟩ = some (.slice (some ⟨bm, 0, none⟩) rf2.length cvm) := (blk_cell X14.out.box 1).trans rfl) | ((with_reducible refine gate_builtin (b := .append) (xs := #[.tmp 63, .tmp 65]) rfl ?_); at_builtin; refine Kd.R_append (Kd.pair (Kd.slice 2 (Kd.int .i64)) (Kd.slice 2 (Kd.int .i64))) (w0 := w) w.heap.size rfl (.tmp 63) (.tmp 65) 104 106 (.agg #[.slice none 0 0, .slice none 0 0]) 48 rfl Try.underlying104 combInfo rfl (by decide) (by omega) (.slice Ap parts.length cp) parts (rx2, rf2) [(.slice (some ⟨bx, 0, none⟩) rx2.length cvc), (.slice (some ⟨bm, 0, none⟩) rf2.length cvm)] (fun k_ => w.heap.size + 1 ≤ k_ ∧ k_ ≠ gB) (fun k_ => wr.heap.size ≤ k_) rfl rfl ?aP ?aK ?aF ?aO ?aB ?aS ?aL ?_; (case aP => exact ⟨[(.slice (some ⟨bx, 0, none⟩) rx2.length cvc)], [(.slice (some ⟨bm, 0, none⟩) rf2.length cvm)], rfl, ⟨_, rfl, Kd.R_mono (Kd.R_lower X14.out.hx (below_size HB.out)) (fun k_ hk_ => Kd.R_base X14.out.hx k_ hk_.symm)⟩, ⟨_, rfl, Kd.R_mono (Kd.R_lower X14.out.hf (below_size HB.out)) (fun k_ hk_ => Kd.R_base X14.out.hf k_ hk_.symm)⟩⟩); (case aK => exact fun k_ hk_ => ⟨⟨by have := blk_lt BM.out; omega, by have := blk_lt BB.out; omega⟩, fun e_ => by have := Kd.R_lt HPt.out k_ e_.symm; omega⟩); (case aF => exact fun k_ hk_ => ⟨by have := blk_lt BM.out; have := below_size X14.out.be; omega, by have := blk_lt BB.out; have := below_size X14.out.be; omega⟩); (case aO => exact Kd.R_below HPt.out X14.out.be); (case aB => exact below_step HB.out X14.out.be); (case aS => exact below_size (below_step HB.out X14.out.be)); (case aL => have := CF.out.2.2; omega); intro v15 w15 ho hb hg hat; obtain ⟨A15, c15, e15⟩ := Kd.R_slice ho; subst e15; have BM15 := Aside0.mk (blk_grown (g := w.heap.size) (o := .cells #[.int .i64 a0_0, .int .i64 a0_1, .slice (some adr) l0_2.length c0_2] 26 (0, 0)) (blk_below BM.out X14.out.be) hg (Kd.R_ne (Kd.R_below HPt.out X14.out.be) (blk_below BM.out X14.out.be) (by decide))); have BB15 := Aside0.mk (blk_grown (g := gB) (o := .cells #[.slice Ap parts.length cp] 104 (0, 0)) (blk_below BB.out X14.out.be) hg (Kd.R_ne (Kd.R_below HPt.out X14.out.be) (blk_below BB.out X14.out.be) (by decide))); have HO15 : Aside0 (Kd.R (Kd.pair (Kd.slice 2 (Kd.int .i64)) (Kd.slice 2 (Kd.int .i64))) 106 w15 w.heap.size (fun k_ => w.heap.size + 1 ≤ k_ ∧ k_ ≠ gB) (.slice A15 (parts.length + 1) c15) (parts ++ [(rx2, rf2)])) := ⟨by rw [List.length_append] at ho; exact ho⟩; have HB15 := Aside0.mk hb; clear ho hb hg hat X14 hm0 hb0 hx0 hx1; have hb0 : w15.cell? ⟨gB, 0, none⟩ = some (.slice Ap parts.length cp) := (blk_cell BB15.out 0).trans rfl; have hbf := blk_frozen BB15.out 0))
          go_roundg k1
          case measure => have := HK1.out; omega
          case rel => exact ⟨_, parts ++ [(rx2, rf2)], _, rfl, H', ⟨by have := HK1.out; omega⟩, ⟨Kd.R_far (p := ⟨gB, 0, none⟩) HO15.out (fun k_ hk_ => hk_.2) _⟩, ⟨blk_far BM15.out (by show w.heap.size ≠ gB; have := HGB.out; omega) _⟩, ⟨blk_put BB15.out 0 _ rfl⟩, ⟨below_set HB15.out (by have := HGB.out; omega)⟩⟩
        · have H' : Aside0 (combRows k1 a0_0 l0_2 parts (wrap64 (i + 1)) = some ps) := ⟨by have h := H1.out; rw [if_neg cf] at h; exact h⟩
          clear H1
          have cfb : decide (0 ≤ f) = false := decide_eq_false cf
          replace cf := Aside0.mk cf
          go_wp2_with (first | (go_at_call 101; refine (combLess.calls k1 a0_0 (.int .i64 a0_1) (.slice (some adr) l0_2.length c0_2) w.heap.size gB Ap cp parts Avc (some ⟨bm, 0, none⟩) r0.length cvc zs.length cvm r0 (zs.set i.toNat 1) x.1 x.2 gx #[(.slice Avc r0.length cvc), (.slice (some ⟨bm, 0, none⟩) zs.length cvm)] 106 wr _ BM.out BB.out HPC.out ?sW ?sR ?sF ?sN ?sE ?sX ?sY B2z.out).mono ?_; (case sW => exact (X7.out.putf i 1).be); (case sR => exact Kd.R_mono (X7.out.putf i 1).hx (fun _ _ => trivial)); (case sF => exact Kd.R_mono (Kd.R_putn X7.out.hf i 1) (fun _ _ => trivial)); (case sN => exact X7.out.ne); (case sE => exact (X7.out.putf i 1).box); (case sX => exact X7.out.nx); (case sY => exact X7.out.nf); rintro e w9 ⟨rfl, hR, hF, hb, hbx⟩; have e1 := combLen hR; have e2 := combLen hF; have X9 : Aside0 (CombX wr w9 gx #[(.slice Avc x.1.length cvc), (.slice (some ⟨bm, 0, none⟩) x.2.length cvm)] Avc (some ⟨bm, 0, none⟩) cvc cvm x.1 x.2) := ⟨by have h := X7.out.less rfl rfl hR hF hb hbx; rw [e1, e2] at h; exact h⟩; rw [e1, e2]; clear hR hF hb hbx e1 e2 X7 B2 B2z hx0 hx1 hc7 hf7 hbg hgb z1b hzl; have hx0 : w9.cell? ⟨gx, 0, none⟩ = some (.slice Avc x.1.length cvc) := (blk_cell X9.out.box 0).trans rfl; have hx1 : w9.cell? ⟨gx, 1, none⟩ = some (.slice (some ⟨bm, 0, none⟩) x.2.length cvm) := (blk_cell X9.out.box 1).trans rfl; have hz0 := blk_frozen X9.out.box 0; have hz1 := blk_frozen X9.out.box 1) | (go_at_call 102; (with_reducible refine (impl_first.calls k1 Avc cvc x.1 f _ ?sC ?sL B3.out).mono ?_); (case sC => exact (X9.out.put (.slice Avc x.1.length cvc) (.slice (some ⟨bm, 0, none⟩) x.2.length cvm)).cx_); (case sL => exact X9.out.lx); rintro e w10 ⟨rfl, hb⟩; have X10 := Aside0.mk ((X9.out.put (.slice Avc x.1.length cvc) (.slice (some ⟨bm, 0, none⟩) x.2.length cvm)).below hb); clear hb X9 hx0 hx1 hz0 hz1))
          go_roundg k1
          case measure => have := HK1.out; omega
          case rel => exact ⟨_, parts, _, rfl, H', ⟨by have := HK1.out; omega⟩, ⟨Kd.R_below HPt.out X10.out.be⟩, ⟨blk_below BM.out X10.out.be⟩, ⟨blk_below BB.out X10.out.be⟩, ⟨below_step HB.out X10.out.be⟩⟩
      · rw [if_neg c2] at H
        obtain rfl := (by simpa using H : parts = ps)
        clear H
        have c2b : decide (i < (l0_2.length : Int)) = false := decide_eq_false c2
        replace c2 := Aside0.mk c2
        have H := HE.out
        clear HE
        replace H := Option.bind_eq_some_iff.mp H
        obtain ⟨t0, At, H⟩ := H
        have B1 := Aside0.mk At
        clear At
        replace H := Option.bind_eq_some_iff.mp H
        obtain ⟨x, At, H⟩ := H
        have B2 := Aside0.mk At
        clear At
        replace H := Option.bind_eq_some_iff.mp H
        obtain ⟨f, At, H⟩ := H
        have B3 := Aside0.mk At
        clear At
        have H1 := Aside0.mk H
        clear H
        obtain ⟨zs, hzs⟩ : ∃ z : List Int, z = List.replicate l0_2.length 0 := ⟨_, rfl⟩
        have HZS := Aside0.mk hzs
        clear hzs
        obtain ⟨Ap, cp, ep, lp, hPC⟩ := combParts HPt.out
        subst ep
        have HPC := Aside0.mk hPC
        clear lp hPC HPt
        have hm2 : wr.cell? ⟨w.heap.size, 2, none⟩ = some (.slice A0_2 l0_2.length c0_2) := (blk_cell BM.out 2).trans rfl
        have B2z : Aside0 (combLess k a0_0 parts t0 zs 0 = some (x.1, x.2)) := ⟨by rw [HZS.out]; exact B2.out⟩
        clear B2
        go_wp2
        clear hm2
        have HBr : Aside0 (Below wr.heap.size wr wr.drew) := ⟨below_drew1 (Below.refl _ _)⟩
        refine start_ (n := 11) (S := fun w' => w'.cell? ⟨w.heap.size, 2, none⟩ = some (.slice A0_2 l0_2.length c0_2)) (ds := [10]) #[false, false, false, false, false, false, false, false, false, false, false] (by kernel_rfl) rfl rfl ((blk_cell (blk_below BM.out HBr.out) 2).trans rfl) (fun hHeld => ?_)
        generalize wr.drew = w15 at HBr hHeld ⊢
        refine pure_ (i := 0) (N := some 68) (v := ?_) (a' := ?_) #[true, false, false, false, false, false, false, false, false, false, false] rfl rfl (by kernel_rfl) (fun _ _ _ h => h) (Or.inl ⟨by rfl, ?_⟩) ?_ ?_
        rotate_left
        · intro w'
          first | (go_simp; with_reducible rfl) | (simp [go_sem, Instr.field, asAgg] <;> with_reducible rfl)
        rotate_left
        · simp only [Act.put, List.setIfInBounds_toArray, List.set_cons_zero, List.set_cons_succ, i64_w, i32_w]
          rfl
        refine pure_ (i := 1) (N := some 69) (v := ?_) (a' := ?_) #[true, true, false, false, false, false, false, false, false, false, false] rfl rfl (by kernel_rfl) (fun _ _ _ h => h) (Or.inl ⟨by rfl, ?_⟩) ?_ ?_
        rotate_left
        · intro w'
          first | (go_simp; with_reducible rfl) | (simp [go_sem, Instr.field, asAgg] <;> with_reducible rfl)
        rotate_left
        · simp only [Act.put, List.setIfInBounds_toArray, List.set_cons_zero, List.set_cons_succ, i64_w, i32_w]
          rfl
        refine pure_ (i := 3) (N := some 71) (v := ?_) (a' := ?_) #[true, true, false, true, false, false, false, false, false, false, false] rfl rfl (by kernel_rfl) (fun _ _ _ h => h) (Or.inl ⟨by rfl, ?_⟩) ?_ ?_
        rotate_left
        · intro w'
          first | (go_simp; with_reducible rfl) | (simp [go_sem, Instr.field, asAgg] <;> with_reducible rfl)
        rotate_left
        · simp only [Act.put, List.setIfInBounds_toArray, List.set_cons_zero, List.set_cons_succ, i64_w, i32_w]
          rfl
        refine take_ (i := 4) (N := some 72) (v := ?_) (a' := ?_) #[true, true, false, true, true, false, false, false, false, false, false] rfl rfl (by kernel_rfl) (fun _ _ _ h => h) (Or.inl ⟨by rfl, ?_⟩) hHeld ?_ ?_
        rotate_left
        · intro w' s0
          go_simp
          with_reducible rfl
        rotate_left
        · simp only [Act.put, List.setIfInBounds_toArray, List.set_cons_zero, List.set_cons_succ, i64_w, i32_w]
          rfl
        refine pure_ (i := 5) (N := some 73) (v := ?_) (a' := ?_) #[true, true, false, true, true, true, false, false, false, false, false] rfl rfl (by kernel_rfl) (fun _ _ _ h => h) (Or.inl ⟨by rfl, ?_⟩) ?_ ?_
        rotate_left
        · intro w'
          first | (go_simp; with_reducible rfl) | (simp [go_sem, Instr.field, asAgg] <;> with_reducible rfl)
        rotate_left
        · simp only [Act.put, List.setIfInBounds_toArray, List.set_cons_zero, List.set_cons_succ, i64_w, i32_w]
          rfl
        refine join_ (σ := Value × Value × Nat) 1 #[true, true, true, true, true, true, true, true, true, true, false] (fun s_ => [(70, s_.1), (74, s_.2.1), (75, .agg #[s_.1, s_.2.1]), (76, .agg #[s_.1, s_.2.1]), (13, .pointer (some ⟨s_.2.2, 0, none⟩))]) (fun s_ w' => (w'.cell? ⟨w.heap.size, 2, none⟩ = some (.slice A0_2 l0_2.length c0_2)) ∧ (Kd.R (Kd.int .i64) 2 w' wr.heap.size (fun _ => True) s_.1 x.1) ∧ (Kd.R (Kd.int .i64) 2 w' wr.heap.size (fun _ => True) s_.2.1 x.2) ∧ (w'.heap[s_.2.2]? = some (.cells #[.slice none 0 0, .slice none 0 0] 106 (0, 0))) ∧ (wr.heap.size ≤ s_.2.2) ∧ (∀ k, (s_.1 : Value).ownBlock = some k → (s_.2.1 : Value).ownBlock ≠ some k) ∧ (∀ k, (s_.1 : Value).ownBlock = some k → k ≠ s_.2.2) ∧ (∀ k, (s_.2.1 : Value).ownBlock = some k → k ≠ s_.2.2) ∧ (Below wr.heap.size wr w')) ?_ ?_
        rotate_left
        · intro hCont
          refine three_ (i := 2) (j := 6) (k := 9) (Ni := some 70) (Nj := some 74) (Nk := some 13) #[true, true, true, true, true, true, false, false, false, false, false] #[true, true, false, true, true, true, true, false, false, false, false] #[true, true, false, true, true, true, false, false, false, true, false] rfl rfl rfl rfl rfl rfl (by kernel_rfl) (by decide) (by decide) (by decide) (fun K hK => ?_) (fun K hK => ?_) (fun K hK => ?_)
          · skip
            refine goes_ Try.func64 (by kernel_rfl) rfl #[.slice A1 l1.length c1] (by rfl) rfl rfl (by simp only [List.map_toArray, List.map_cons, List.map_nil]; rfl) ?_
            with_reducible refine (slices_Clone_int64_int64.calls A1 c1 l1 t0 _ (Kd.C_below HR1.out (below_step HB.out HBr.out)) HC1.out B1.out).mono ?_
            rintro e wc ⟨vc, rfl, ho, hb⟩
            refine ⟨_, rfl, ?_⟩
            obtain ⟨Avc, cvc, evc⟩ := Kd.R_slice ho
            subst evc
            have HVC : Aside0 (Kd.R (Kd.int .i64) 2 wc wr.heap.size (fun _ => True) (.slice Avc t0.length cvc) t0) := ⟨Kd.R_lower ho (below_size HBr.out)⟩
            have HB2 := Aside0.mk (below_step HBr.out hb)
            clear HBr
            have HBr := HB2
            clear HB2
            refine hK.out _ _ ((blk_cell (blk_below BM.out HBr.out) 2).trans rfl) (fun hHeld => ?_)
            clear hK K
            refine norm_ (a' := ?_) ?_ ?_
            rotate_left
            · show Act.put _ (some 70) _ = _
              simp only [Act.put, List.setIfInBounds_toArray, List.set_cons_zero, List.set_cons_succ, i64_w, i32_w]
              rfl
            refine two_ (i := 6) (j := 9) (Ni := some 74) (Nj := some 13) #[true, true, true, true, true, true, true, false, false, false, false] #[true, true, true, true, true, true, false, false, false, true, false] rfl rfl rfl rfl (by kernel_rfl) (by decide) (by decide) (fun K hK => ?_) (fun K hK => ?_)
            · skip
              refine Kd.R_make_step (Kd.int .i64) _ 2 (by rfl) (N := 74) rfl 35 _ _ rfl (l0_2.length : Int) rfl rfl Try.underlying35 (.int .i64 0) 8 info2 rfl (by decide) (by omega) 0 (ok := fun _ => True) (okp := fun _ => True) rfl (fun _ hk => hk) trivial (by omega) (by have := HL20.out; simp only [Int.toNat_natCast]; omega) (Below.refl _ _) (Nat.le_refl _) ?_
              intro vm wm2 ho hb hg_ hnew_
              clear hg_ hnew_
              rw [Int.toNat_natCast, ← HZS.out] at ho
              obtain ⟨Avm, cvm, evm⟩ := Kd.R_slice ho
              subst evm
              have hcm : Aside0 (∀ k, ((.slice Avc t0.length cvc) : Value).ownBlock = some k → ((.slice Avm zs.length cvm) : Value).ownBlock ≠ some k) := ⟨fun k h1 h2 => by have := Kd.R_lt HVC.out k h1; have := Kd.R_base ho k h2; omega⟩
              have HVC2 := Aside0.mk (Kd.R_below HVC.out hb)
              clear HVC
              have HVC := HVC2
              clear HVC2
              have HVM : Aside0 (Kd.R (Kd.int .i64) 2 wm2 wr.heap.size (fun _ => True) (.slice Avm zs.length cvm) zs) := ⟨Kd.R_lower ho (below_size HBr.out)⟩
              have HB2 := Aside0.mk (below_step HBr.out hb)
              clear HBr
              have HBr := HB2
              clear HB2
              refine hK.out _ _ ((blk_cell (blk_below BM.out HBr.out) 2).trans rfl) (fun hHeld => ?_)
              clear hK K
              refine norm_ (a' := ?_) ?_ ?_
              rotate_left
              · show Act.put _ (some 74) _ = _
                simp only [Act.put, List.setIfInBounds_toArray, List.set_cons_zero, List.set_cons_succ, i64_w, i32_w]
                rfl
              refine pure_ (i := 7) (N := some 75) (v := ?_) (a' := ?_) #[true, true, true, true, true, true, true, true, false, false, false] rfl rfl (by kernel_rfl) (fun _ _ _ h => h) (Or.inl ⟨by rfl, ?_⟩) ?_ ?_
              rotate_left
              · intro w'
                first | (go_simp; with_reducible rfl) | (simp [go_sem, Instr.field, asAgg] <;> with_reducible rfl)
              rotate_left
              · simp only [Act.put, List.setIfInBounds_toArray, List.set_cons_zero, List.set_cons_succ, i64_w, i32_w]
                rfl
              refine two_ (i := 8) (j := 9) (Ni := some 76) (Nj := some 13) #[true, true, true, true, true, true, true, true, true, false, false] #[true, true, true, true, true, true, true, true, false, true, false] rfl rfl rfl rfl (by kernel_rfl) (by decide) (by decide) (fun K hK => ?_) (fun K hK => ?_)
              · skip
                refine combGoes Try.func101 (by kernel_rfl) rfl #[.agg #[(.slice Avc t0.length cvc), (.slice Avm zs.length cvm)]] (by rfl) rfl rfl rfl (by simp only [List.map_toArray, List.map_cons, List.map_nil]; rfl) ?_
                refine (combLess.calls k a0_0 (.int .i64 a0_1) (.slice A0_2 l0_2.length c0_2) w.heap.size gB Ap cp parts Avc Avm t0.length cvc zs.length cvm t0 zs x.1 x.2 w.heap.size #[.int .i64 a0_0, .int .i64 a0_1, .slice A0_2 l0_2.length c0_2] 26 wr _ BM.out BB.out HPC.out HBr.out HVC.out HVM.out hcm.out (blk_below BM.out HBr.out) (fun k h1 h2 => by have := Kd.R_base HVC.out k h1; have := blk_lt BM.out; omega) (fun k h1 h2 => by have := Kd.R_base HVM.out k h1; have := blk_lt BM.out; omega) B2z.out).mono ?_
                rintro e wl26 ⟨rfl, hR, hF, hb, hbx⟩
                refine ⟨_, rfl, ?_⟩
                clear HVC HVM HBr
                have HVC := Aside0.mk hR
                have HVM := Aside0.mk hF
                have HBr := Aside0.mk hb
                clear hR hF hb hbx
                refine hK.out _ _ ((blk_cell (blk_below BM.out HBr.out) 2).trans rfl) (fun hHeld => ?_)
                clear hK K
                refine norm_ (a' := ?_) ?_ ?_
                rotate_left
                · show Act.put _ (some 76) _ = _
                  simp only [Act.put, List.setIfInBounds_toArray, List.set_cons_zero, List.set_cons_succ, i64_w, i32_w]
                  rfl
                refine one_ (i := 9) (N := some 13) #[true, true, true, true, true, true, true, true, true, true, false] rfl rfl (by kernel_rfl) (by decide) (fun K hK => ?_)
                refine box_step (by rfl) (N := 13) rfl (cs := #[.slice none 0 0, .slice none 0 0]) (t := 106) ?_ ?_
                · first | (go_simp; done) | (go_simp; rfl)
                intro gx hgx wx268 hbox hb
                have hcx : Aside0 (∀ k, ((.slice Avc t0.length cvc) : Value).ownBlock = some k → k ≠ gx) := ⟨fun k h1 h2 => by have := Kd.R_lt HVC.out k h1; omega⟩
                have HVC2 := Aside0.mk (Kd.R_below HVC.out hb)
                clear HVC
                have HVC := HVC2
                clear HVC2
                have hmx : Aside0 (∀ k, ((.slice Avm zs.length cvm) : Value).ownBlock = some k → k ≠ gx) := ⟨fun k h1 h2 => by have := Kd.R_lt HVM.out k h1; omega⟩
                have HVM2 := Aside0.mk (Kd.R_below HVM.out hb)
                clear HVM
                have HVM := HVM2
                clear HVM2
                have HGX := Aside0.mk hbox
                have HGW : Aside0 (wr.heap.size ≤ gx) := ⟨by rw [hgx]; exact (below_size HBr.out)⟩
                have HB2 := Aside0.mk (below_step HBr.out hb)
                clear HBr
                have HBr := HB2
                clear HB2
                refine hK.out _ _ ((blk_cell (blk_below BM.out HBr.out) 2).trans rfl) (fun hHeld => ?_)
                clear hK K
                refine norm_ (a' := ?_) ?_ ?_
                rotate_left
                · show Act.put _ (some 13) _ = _
                  simp only [Act.put, List.setIfInBounds_toArray, List.set_cons_zero, List.set_cons_succ, i64_w, i32_w]
                  rfl
                exact norm_ (by first | (simp only [putAll, Act.put, List.setIfInBounds_toArray, List.set_cons_zero, List.set_cons_succ]; done) | (simp only [putAll, Act.put, List.setIfInBounds_toArray, List.set_cons_zero, List.set_cons_succ]; rfl)) (hCont ((.slice Avc t0.length cvc), (.slice Avm zs.length cvm), gx) _ ⟨(blk_cell (blk_below BM.out HBr.out) 2).trans rfl, HVC.out, HVM.out, HGX.out, HGW.out, hcm.out, hcx.out, hmx.out, HBr.out⟩)
              · skip
                refine box_step (by rfl) (N := 13) rfl (cs := #[.slice none 0 0, .slice none 0 0]) (t := 106) ?_ ?_
                · first | (go_simp; done) | (go_simp; rfl)
                intro gx hgx wx26 hbox hb
                have hcx : Aside0 (∀ k, ((.slice Avc t0.length cvc) : Value).ownBlock = some k → k ≠ gx) := ⟨fun k h1 h2 => by have := Kd.R_lt HVC.out k h1; omega⟩
                have HVC2 := Aside0.mk (Kd.R_below HVC.out hb)
                clear HVC
                have HVC := HVC2
                clear HVC2
                have hmx : Aside0 (∀ k, ((.slice Avm zs.length cvm) : Value).ownBlock = some k → k ≠ gx) := ⟨fun k h1 h2 => by have := Kd.R_lt HVM.out k h1; omega⟩
                have HVM2 := Aside0.mk (Kd.R_below HVM.out hb)
                clear HVM
                have HVM := HVM2
                clear HVM2
                have HGX := Aside0.mk hbox
                have HGW : Aside0 (wr.heap.size ≤ gx) := ⟨by rw [hgx]; exact (below_size HBr.out)⟩
                have HB2 := Aside0.mk (below_step HBr.out hb)
                clear HBr
                have HBr := HB2
                clear HB2
                refine hK.out _ _ ((blk_cell (blk_below BM.out HBr.out) 2).trans rfl) (fun hHeld => ?_)
                clear hK K
                refine norm_ (a' := ?_) ?_ ?_
                rotate_left
                · show Act.put _ (some 13) _ = _
                  simp only [Act.put, List.setIfInBounds_toArray, List.set_cons_zero, List.set_cons_succ, i64_w, i32_w]
                  rfl
                refine one_ (i := 8) (N := some 76) #[true, true, true, true, true, true, true, true, true, true, false] rfl rfl (by kernel_rfl) (by decide) (fun K hK => ?_)
                refine combGoes Try.func101 (by kernel_rfl) rfl #[.agg #[(.slice Avc t0.length cvc), (.slice Avm zs.length cvm)]] (by rfl) rfl rfl rfl (by simp only [List.map_toArray, List.map_cons, List.map_nil]; rfl) ?_
                refine (combLess.calls k a0_0 (.int .i64 a0_1) (.slice A0_2 l0_2.length c0_2) w.heap.size gB Ap cp parts Avc Avm t0.length cvc zs.length cvm t0 zs x.1 x.2 gx #[.slice none 0 0, .slice none 0 0] 106 wr _ BM.out BB.out HPC.out HBr.out HVC.out HVM.out hcm.out HGX.out hcx.out hmx.out B2z.out).mono ?_
                rintro e wl269 ⟨rfl, hR, hF, hb, hbx⟩
                refine ⟨_, rfl, ?_⟩
                clear HVC HVM HBr HGX
                have HVC := Aside0.mk hR
                have HVM := Aside0.mk hF
                have HBr := Aside0.mk hb
                have HGX := Aside0.mk hbx
                clear hR hF hb hbx
                refine hK.out _ _ ((blk_cell (blk_below BM.out HBr.out) 2).trans rfl) (fun hHeld => ?_)
                clear hK K
                refine norm_ (a' := ?_) ?_ ?_
                rotate_left
                · show Act.put _ (some 76) _ = _
                  simp only [Act.put, List.setIfInBounds_toArray, List.set_cons_zero, List.set_cons_succ, i64_w, i32_w]
                  rfl
                exact norm_ (by first | (simp only [putAll, Act.put, List.setIfInBounds_toArray, List.set_cons_zero, List.set_cons_succ]; done) | (simp only [putAll, Act.put, List.setIfInBounds_toArray, List.set_cons_zero, List.set_cons_succ]; rfl)) (hCont ((.slice Avc t0.length cvc), (.slice Avm zs.length cvm), gx) _ ⟨(blk_cell (blk_below BM.out HBr.out) 2).trans rfl, HVC.out, HVM.out, HGX.out, HGW.out, hcm.out, hcx.out, hmx.out, HBr.out⟩)
            · skip
              refine box_step (by rfl) (N := 13) rfl (cs := #[.slice none 0 0, .slice none 0 0]) (t := 106) ?_ ?_
              · first | (go_simp; done) | (go_simp; rfl)
              intro gx hgx wx2 hbox hb
              have hcx : Aside0 (∀ k, ((.slice Avc t0.length cvc) : Value).ownBlock = some k → k ≠ gx) := ⟨fun k h1 h2 => by have := Kd.R_lt HVC.out k h1; omega⟩
              have HVC2 := Aside0.mk (Kd.R_below HVC.out hb)
              clear HVC
              have HVC := HVC2
              clear HVC2
              have HGX := Aside0.mk hbox
              have HGW : Aside0 (wr.heap.size ≤ gx) := ⟨by rw [hgx]; exact (below_size HBr.out)⟩
              have HB2 := Aside0.mk (below_step HBr.out hb)
              clear HBr
              have HBr := HB2
              clear HB2
              refine hK.out _ _ ((blk_cell (blk_below BM.out HBr.out) 2).trans rfl) (fun hHeld => ?_)
              clear hK K
              refine norm_ (a' := ?_) ?_ ?_
              rotate_left
              · show Act.put _ (some 13) _ = _
                simp only [Act.put, List.setIfInBounds_toArray, List.set_cons_zero, List.set_cons_succ, i64_w, i32_w]
                rfl
              refine one_ (i := 6) (N := some 74) #[true, true, true, true, true, true, true, false, false, true, false] rfl rfl (by kernel_rfl) (by decide) (fun K hK => ?_)
              refine Kd.R_make_step (Kd.int .i64) _ 2 (by rfl) (N := 74) rfl 35 _ _ rfl (l0_2.length : Int) rfl rfl Try.underlying35 (.int .i64 0) 8 info2 rfl (by decide) (by omega) 0 (ok := fun _ => True) (okp := fun _ => True) rfl (fun _ hk => hk) trivial (by omega) (by have := HL20.out; simp only [Int.toNat_natCast]; omega) (Below.refl _ _) (Nat.le_refl _) ?_
              intro vm wm29 ho hb hg_ hnew_
              clear hg_ hnew_
              rw [Int.toNat_natCast, ← HZS.out] at ho
              obtain ⟨Avm, cvm, evm⟩ := Kd.R_slice ho
              subst evm
              have hcm : Aside0 (∀ k, ((.slice Avc t0.length cvc) : Value).ownBlock = some k → ((.slice Avm zs.length cvm) : Value).ownBlock ≠ some k) := ⟨fun k h1 h2 => by have := Kd.R_lt HVC.out k h1; have := Kd.R_base ho k h2; omega⟩
              have HVC2 := Aside0.mk (Kd.R_below HVC.out hb)
              clear HVC
              have HVC := HVC2
              clear HVC2
              have hmx : Aside0 (∀ k, ((.slice Avm zs.length cvm) : Value).ownBlock = some k → k ≠ gx) := ⟨fun k h1 h2 => by have := blk_lt HGX.out; have := Kd.R_base ho k h1; omega⟩
              have HGX2 := Aside0.mk (blk_below HGX.out hb)
              clear HGX
              have HGX := HGX2
              clear HGX2
              have HVM : Aside0 (Kd.R (Kd.int .i64) 2 wm29 wr.heap.size (fun _ => True) (.slice Avm zs.length cvm) zs) := ⟨Kd.R_lower ho (below_size HBr.out)⟩
              have HB2 := Aside0.mk (below_step HBr.out hb)
              clear HBr
              have HBr := HB2
              clear HB2
              refine hK.out _ _ ((blk_cell (blk_below BM.out HBr.out) 2).trans rfl) (fun hHeld => ?_)
              clear hK K
              refine norm_ (a' := ?_) ?_ ?_
              rotate_left
              · show Act.put _ (some 74) _ = _
                simp only [Act.put, List.setIfInBounds_toArray, List.set_cons_zero, List.set_cons_succ, i64_w, i32_w]
                rfl
              refine pure_ (i := 7) (N := some 75) (v := ?_) (a' := ?_) #[true, true, true, true, true, true, true, true, false, true, false] rfl rfl (by kernel_rfl) (fun _ _ _ h => h) (Or.inl ⟨by rfl, ?_⟩) ?_ ?_
              rotate_left
              · intro w'
                first | (go_simp; with_reducible rfl) | (simp [go_sem, Instr.field, asAgg] <;> with_reducible rfl)
              rotate_left
              · simp only [Act.put, List.setIfInBounds_toArray, List.set_cons_zero, List.set_cons_succ, i64_w, i32_w]
                rfl
              refine one_ (i := 8) (N := some 76) #[true, true, true, true, true, true, true, true, true, true, false] rfl rfl (by kernel_rfl) (by decide) (fun K hK => ?_)
              refine combGoes Try.func101 (by kernel_rfl) rfl #[.agg #[(.slice Avc t0.length cvc), (.slice Avm zs.length cvm)]] (by rfl) rfl rfl rfl (by simp only [List.map_toArray, List.map_cons, List.map_nil]; rfl) ?_
              refine (combLess.calls k a0_0 (.int .i64 a0_1) (.slice A0_2 l0_2.length c0_2) w.heap.size gB Ap cp parts Avc Avm t0.length cvc zs.length cvm t0 zs x.1 x.2 gx #[.slice none 0 0, .slice none 0 0] 106 wr _ BM.out BB.out HPC.out HBr.out HVC.out HVM.out hcm.out HGX.out hcx.out hmx.out B2z.out).mono ?_
              rintro e wl296 ⟨rfl, hR, hF, hb, hbx⟩
              refine ⟨_, rfl, ?_⟩
              clear HVC HVM HBr HGX
              have HVC := Aside0.mk hR
              have HVM := Aside0.mk hF
              have HBr := Aside0.mk hb
              have HGX := Aside0.mk hbx
              clear hR hF hb hbx
              refine hK.out _ _ ((blk_cell (blk_below BM.out HBr.out) 2).trans rfl) (fun hHeld => ?_)
              clear hK K
              refine norm_ (a' := ?_) ?_ ?_
              rotate_left
              · show Act.put _ (some 76) _ = _
                simp only [Act.put, List.setIfInBounds_toArray, List.set_cons_zero, List.set_cons_succ, i64_w, i32_w]
                rfl
              exact norm_ (by first | (simp only [putAll, Act.put, List.setIfInBounds_toArray, List.set_cons_zero, List.set_cons_succ]; done) | (simp only [putAll, Act.put, List.setIfInBounds_toArray, List.set_cons_zero, List.set_cons_succ]; rfl)) (hCont ((.slice Avc t0.length cvc), (.slice Avm zs.length cvm), gx) _ ⟨(blk_cell (blk_below BM.out HBr.out) 2).trans rfl, HVC.out, HVM.out, HGX.out, HGW.out, hcm.out, hcx.out, hmx.out, HBr.out⟩)
          · skip
            refine Kd.R_make_step (Kd.int .i64) _ 2 (by rfl) (N := 74) rfl 35 _ _ rfl (l0_2.length : Int) rfl rfl Try.underlying35 (.int .i64 0) 8 info2 rfl (by decide) (by omega) 0 (ok := fun _ => True) (okp := fun _ => True) rfl (fun _ hk => hk) trivial (by omega) (by have := HL20.out; simp only [Int.toNat_natCast]; omega) (Below.refl _ _) (Nat.le_refl _) ?_
            intro vm wm ho hb hg_ hnew_
            clear hg_ hnew_
            rw [Int.toNat_natCast, ← HZS.out] at ho
            obtain ⟨Avm, cvm, evm⟩ := Kd.R_slice ho
            subst evm
            have HVM : Aside0 (Kd.R (Kd.int .i64) 2 wm wr.heap.size (fun _ => True) (.slice Avm zs.length cvm) zs) := ⟨Kd.R_lower ho (below_size HBr.out)⟩
            have HB2 := Aside0.mk (below_step HBr.out hb)
            clear HBr
            have HBr := HB2
            clear HB2
            refine hK.out _ _ ((blk_cell (blk_below BM.out HBr.out) 2).trans rfl) (fun hHeld => ?_)
            clear hK K
            refine norm_ (a' := ?_) ?_ ?_
            rotate_left
            · show Act.put _ (some 74) _ = _
              simp only [Act.put, List.setIfInBounds_toArray, List.set_cons_zero, List.set_cons_succ, i64_w, i32_w]
              rfl
            refine two_ (i := 2) (j := 9) (Ni := some 70) (Nj := some 13) #[true, true, true, true, true, true, true, false, false, false, false] #[true, true, false, true, true, true, true, false, false, true, false] rfl rfl rfl rfl (by kernel_rfl) (by decide) (by decide) (fun K hK => ?_) (fun K hK => ?_)
            · skip
              refine goes_ Try.func64 (by kernel_rfl) rfl #[.slice A1 l1.length c1] (by rfl) rfl rfl (by simp only [List.map_toArray, List.map_cons, List.map_nil]; rfl) ?_
              with_reducible refine (slices_Clone_int64_int64.calls A1 c1 l1 t0 _ (Kd.C_below HR1.out (below_step HB.out HBr.out)) HC1.out B1.out).mono ?_
              rintro e wc6 ⟨vc, rfl, ho, hb⟩
              refine ⟨_, rfl, ?_⟩
              obtain ⟨Avc, cvc, evc⟩ := Kd.R_slice ho
              subst evc
              have hcm : Aside0 (∀ k, ((.slice Avc t0.length cvc) : Value).ownBlock = some k → ((.slice Avm zs.length cvm) : Value).ownBlock ≠ some k) := ⟨fun k h1 h2 => by have := Kd.R_lt HVM.out k h2; have := Kd.R_base ho k h1; omega⟩
              have HVM2 := Aside0.mk (Kd.R_below HVM.out hb)
              clear HVM
              have HVM := HVM2
              clear HVM2
              have HVC : Aside0 (Kd.R (Kd.int .i64) 2 wc6 wr.heap.size (fun _ => True) (.slice Avc t0.length cvc) t0) := ⟨Kd.R_lower ho (below_size HBr.out)⟩
              have HB2 := Aside0.mk (below_step HBr.out hb)
              clear HBr
              have HBr := HB2
              clear HB2
              refine hK.out _ _ ((blk_cell (blk_below BM.out HBr.out) 2).trans rfl) (fun hHeld => ?_)
              clear hK K
              refine norm_ (a' := ?_) ?_ ?_
              rotate_left
              · show Act.put _ (some 70) _ = _
                simp only [Act.put, List.setIfInBounds_toArray, List.set_cons_zero, List.set_cons_succ, i64_w, i32_w]
                rfl
              refine pure_ (i := 7) (N := some 75) (v := ?_) (a' := ?_) #[true, true, true, true, true, true, true, true, false, false, false] rfl rfl (by kernel_rfl) (fun _ _ _ h => h) (Or.inl ⟨by rfl, ?_⟩) ?_ ?_
              rotate_left
              · intro w'
                first | (go_simp; with_reducible rfl) | (simp [go_sem, Instr.field, asAgg] <;> with_reducible rfl)
              rotate_left
              · simp only [Act.put, List.setIfInBounds_toArray, List.set_cons_zero, List.set_cons_succ, i64_w, i32_w]
                rfl
              refine two_ (i := 8) (j := 9) (Ni := some 76) (Nj := some 13) #[true, true, true, true, true, true, true, true, true, false, false] #[true, true, true, true, true, true, true, true, false, true, false] rfl rfl rfl rfl (by kernel_rfl) (by decide) (by decide) (fun K hK => ?_) (fun K hK => ?_)
              · skip
                refine combGoes Try.func101 (by kernel_rfl) rfl #[.agg #[(.slice Avc t0.length cvc), (.slice Avm zs.length cvm)]] (by rfl) rfl rfl rfl (by simp only [List.map_toArray, List.map_cons, List.map_nil]; rfl) ?_
                refine (combLess.calls k a0_0 (.int .i64 a0_1) (.slice A0_2 l0_2.length c0_2) w.heap.size gB Ap cp parts Avc Avm t0.length cvc zs.length cvm t0 zs x.1 x.2 w.heap.size #[.int .i64 a0_0, .int .i64 a0_1, .slice A0_2 l0_2.length c0_2] 26 wr _ BM.out BB.out HPC.out HBr.out HVC.out HVM.out hcm.out (blk_below BM.out HBr.out) (fun k h1 h2 => by have := Kd.R_base HVC.out k h1; have := blk_lt BM.out; omega) (fun k h1 h2 => by have := Kd.R_base HVM.out k h1; have := blk_lt BM.out; omega) B2z.out).mono ?_
                rintro e wl62 ⟨rfl, hR, hF, hb, hbx⟩
                refine ⟨_, rfl, ?_⟩
                clear HVC HVM HBr
                have HVC := Aside0.mk hR
                have HVM := Aside0.mk hF
                have HBr := Aside0.mk hb
                clear hR hF hb hbx
                refine hK.out _ _ ((blk_cell (blk_below BM.out HBr.out) 2).trans rfl) (fun hHeld => ?_)
                clear hK K
                refine norm_ (a' := ?_) ?_ ?_
                rotate_left
                · show Act.put _ (some 76) _ = _
                  simp only [Act.put, List.setIfInBounds_toArray, List.set_cons_zero, List.set_cons_succ, i64_w, i32_w]
                  rfl
                refine one_ (i := 9) (N := some 13) #[true, true, true, true, true, true, true, true, true, true, false] rfl rfl (by kernel_rfl) (by decide) (fun K hK => ?_)
                refine box_step (by rfl) (N := 13) rfl (cs := #[.slice none 0 0, .slice none 0 0]) (t := 106) ?_ ?_
                · first | (go_simp; done) | (go_simp; rfl)
                intro gx hgx wx628 hbox hb
                have hmx : Aside0 (∀ k, ((.slice Avm zs.length cvm) : Value).ownBlock = some k → k ≠ gx) := ⟨fun k h1 h2 => by have := Kd.R_lt HVM.out k h1; omega⟩
                have HVM2 := Aside0.mk (Kd.R_below HVM.out hb)
                clear HVM
                have HVM := HVM2
                clear HVM2
                have hcx : Aside0 (∀ k, ((.slice Avc t0.length cvc) : Value).ownBlock = some k → k ≠ gx) := ⟨fun k h1 h2 => by have := Kd.R_lt HVC.out k h1; omega⟩
                have HVC2 := Aside0.mk (Kd.R_below HVC.out hb)
                clear HVC
                have HVC := HVC2
                clear HVC2
                have HGX := Aside0.mk hbox
                have HGW : Aside0 (wr.heap.size ≤ gx) := ⟨by rw [hgx]; exact (below_size HBr.out)⟩
                have HB2 := Aside0.mk (below_step HBr.out hb)
                clear HBr
                have HBr := HB2
                clear HB2
                refine hK.out _ _ ((blk_cell (blk_below BM.out HBr.out) 2).trans rfl) (fun hHeld => ?_)
                clear hK K
                refine norm_ (a' := ?_) ?_ ?_
                rotate_left
                · show Act.put _ (some 13) _ = _
                  simp only [Act.put, List.setIfInBounds_toArray, List.set_cons_zero, List.set_cons_succ, i64_w, i32_w]
                  rfl
                exact norm_ (by first | (simp only [putAll, Act.put, List.setIfInBounds_toArray, List.set_cons_zero, List.set_cons_succ]; done) | (simp only [putAll, Act.put, List.setIfInBounds_toArray, List.set_cons_zero, List.set_cons_succ]; rfl)) (hCont ((.slice Avc t0.length cvc), (.slice Avm zs.length cvm), gx) _ ⟨(blk_cell (blk_below BM.out HBr.out) 2).trans rfl, HVC.out, HVM.out, HGX.out, HGW.out, hcm.out, hcx.out, hmx.out, HBr.out⟩)
              · skip
                refine box_step (by rfl) (N := 13) rfl (cs := #[.slice none 0 0, .slice none 0 0]) (t := 106) ?_ ?_
                · first | (go_simp; done) | (go_simp; rfl)
                intro gx hgx wx62 hbox hb
                have hmx : Aside0 (∀ k, ((.slice Avm zs.length cvm) : Value).ownBlock = some k → k ≠ gx) := ⟨fun k h1 h2 => by have := Kd.R_lt HVM.out k h1; omega⟩
                have HVM2 := Aside0.mk (Kd.R_below HVM.out hb)
                clear HVM
                have HVM := HVM2
                clear HVM2
                have hcx : Aside0 (∀ k, ((.slice Avc t0.length cvc) : Value).ownBlock = some k → k ≠ gx) := ⟨fun k h1 h2 => by have := Kd.R_lt HVC.out k h1; omega⟩
                have HVC2 := Aside0.mk (Kd.R_below HVC.out hb)
                clear HVC
                have HVC := HVC2
                clear HVC2
                have HGX := Aside0.mk hbox
                have HGW : Aside0 (wr.heap.size ≤ gx) := ⟨by rw [hgx]; exact (below_size HBr.out)⟩
                have HB2 := Aside0.mk (below_step HBr.out hb)
                clear HBr
                have HBr := HB2
                clear HB2
                refine hK.out _ _ ((blk_cell (blk_below BM.out HBr.out) 2).trans rfl) (fun hHeld => ?_)
                clear hK K
                refine norm_ (a' := ?_) ?_ ?_
                rotate_left
                · show Act.put _ (some 13) _ = _
                  simp only [Act.put, List.setIfInBounds_toArray, List.set_cons_zero, List.set_cons_succ, i64_w, i32_w]
                  rfl
                refine one_ (i := 8) (N := some 76) #[true, true, true, true, true, true, true, true, true, true, false] rfl rfl (by kernel_rfl) (by decide) (fun K hK => ?_)
                refine combGoes Try.func101 (by kernel_rfl) rfl #[.agg #[(.slice Avc t0.length cvc), (.slice Avm zs.length cvm)]] (by rfl) rfl rfl rfl (by simp only [List.map_toArray, List.map_cons, List.map_nil]; rfl) ?_
                refine (combLess.calls k a0_0 (.int .i64 a0_1) (.slice A0_2 l0_2.length c0_2) w.heap.size gB Ap cp parts Avc Avm t0.length cvc zs.length cvm t0 zs x.1 x.2 gx #[.slice none 0 0, .slice none 0 0] 106 wr _ BM.out BB.out HPC.out HBr.out HVC.out HVM.out hcm.out HGX.out hcx.out hmx.out B2z.out).mono ?_
                rintro e wl629 ⟨rfl, hR, hF, hb, hbx⟩
                refine ⟨_, rfl, ?_⟩
                clear HVC HVM HBr HGX
                have HVC := Aside0.mk hR
                have HVM := Aside0.mk hF
                have HBr := Aside0.mk hb
                have HGX := Aside0.mk hbx
                clear hR hF hb hbx
                refine hK.out _ _ ((blk_cell (blk_below BM.out HBr.out) 2).trans rfl) (fun hHeld => ?_)
                clear hK K
                refine norm_ (a' := ?_) ?_ ?_
                rotate_left
                · show Act.put _ (some 76) _ = _
                  simp only [Act.put, List.setIfInBounds_toArray, List.set_cons_zero, List.set_cons_succ, i64_w, i32_w]
                  rfl
                exact norm_ (by first | (simp only [putAll, Act.put, List.setIfInBounds_toArray, List.set_cons_zero, List.set_cons_succ]; done) | (simp only [putAll, Act.put, List.setIfInBounds_toArray, List.set_cons_zero, List.set_cons_succ]; rfl)) (hCont ((.slice Avc t0.length cvc), (.slice Avm zs.length cvm), gx) _ ⟨(blk_cell (blk_below BM.out HBr.out) 2).trans rfl, HVC.out, HVM.out, HGX.out, HGW.out, hcm.out, hcx.out, hmx.out, HBr.out⟩)
            · skip
              refine box_step (by rfl) (N := 13) rfl (cs := #[.slice none 0 0, .slice none 0 0]) (t := 106) ?_ ?_
              · first | (go_simp; done) | (go_simp; rfl)
              intro gx hgx wx6 hbox hb
              have hmx : Aside0 (∀ k, ((.slice Avm zs.length cvm) : Value).ownBlock = some k → k ≠ gx) := ⟨fun k h1 h2 => by have := Kd.R_lt HVM.out k h1; omega⟩
              have HVM2 := Aside0.mk (Kd.R_below HVM.out hb)
              clear HVM
              have HVM := HVM2
              clear HVM2
              have HGX := Aside0.mk hbox
              have HGW : Aside0 (wr.heap.size ≤ gx) := ⟨by rw [hgx]; exact (below_size HBr.out)⟩
              have HB2 := Aside0.mk (below_step HBr.out hb)
              clear HBr
              have HBr := HB2
              clear HB2
              refine hK.out _ _ ((blk_cell (blk_below BM.out HBr.out) 2).trans rfl) (fun hHeld => ?_)
              clear hK K
              refine norm_ (a' := ?_) ?_ ?_
              rotate_left
              · show Act.put _ (some 13) _ = _
                simp only [Act.put, List.setIfInBounds_toArray, List.set_cons_zero, List.set_cons_succ, i64_w, i32_w]
                rfl
              refine one_ (i := 2) (N := some 70) #[true, true, true, true, true, true, true, false, false, true, false] rfl rfl (by kernel_rfl) (by decide) (fun K hK => ?_)
              refine goes_ Try.func64 (by kernel_rfl) rfl #[.slice A1 l1.length c1] (by rfl) rfl rfl (by simp only [List.map_toArray, List.map_cons, List.map_nil]; rfl) ?_
              with_reducible refine (slices_Clone_int64_int64.calls A1 c1 l1 t0 _ (Kd.C_below HR1.out (below_step HB.out HBr.out)) HC1.out B1.out).mono ?_
              rintro e wc69 ⟨vc, rfl, ho, hb⟩
              refine ⟨_, rfl, ?_⟩
              obtain ⟨Avc, cvc, evc⟩ := Kd.R_slice ho
              subst evc
              have hcm : Aside0 (∀ k, ((.slice Avc t0.length cvc) : Value).ownBlock = some k → ((.slice Avm zs.length cvm) : Value).ownBlock ≠ some k) := ⟨fun k h1 h2 => by have := Kd.R_lt HVM.out k h2; have := Kd.R_base ho k h1; omega⟩
              have HVM2 := Aside0.mk (Kd.R_below HVM.out hb)
              clear HVM
              have HVM := HVM2
              clear HVM2
              have hcx : Aside0 (∀ k, ((.slice Avc t0.length cvc) : Value).ownBlock = some k → k ≠ gx) := ⟨fun k h1 h2 => by have := blk_lt HGX.out; have := Kd.R_base ho k h1; omega⟩
              have HGX2 := Aside0.mk (blk_below HGX.out hb)
              clear HGX
              have HGX := HGX2
              clear HGX2
              have HVC : Aside0 (Kd.R (Kd.int .i64) 2 wc69 wr.heap.size (fun _ => True) (.slice Avc t0.length cvc) t0) := ⟨Kd.R_lower ho (below_size HBr.out)⟩
              have HB2 := Aside0.mk (below_step HBr.out hb)
              clear HBr
              have HBr := HB2
              clear HB2
              refine hK.out _ _ ((blk_cell (blk_below BM.out HBr.out) 2).trans rfl) (fun hHeld => ?_)
              clear hK K
              refine norm_ (a' := ?_) ?_ ?_
              rotate_left
              · show Act.put _ (some 70) _ = _
                simp only [Act.put, List.setIfInBounds_toArray, List.set_cons_zero, List.set_cons_succ, i64_w, i32_w]
                rfl
              refine pure_ (i := 7) (N := some 75) (v := ?_) (a' := ?_) #[true, true, true, true, true, true, true, true, false, true, false] rfl rfl (by kernel_rfl) (fun _ _ _ h => h) (Or.inl ⟨by rfl, ?_⟩) ?_ ?_
              rotate_left
              · intro w'
                first | (go_simp; with_reducible rfl) | (simp [go_sem, Instr.field, asAgg] <;> with_reducible rfl)
              rotate_left
              · simp only [Act.put, List.setIfInBounds_toArray, List.set_cons_zero, List.set_cons_succ, i64_w, i32_w]
                rfl
              refine one_ (i := 8) (N := some 76) #[true, true, true, true, true, true, true, true, true, true, false] rfl rfl (by kernel_rfl) (by decide) (fun K hK => ?_)
              refine combGoes Try.func101 (by kernel_rfl) rfl #[.agg #[(.slice Avc t0.length cvc), (.slice Avm zs.length cvm)]] (by rfl) rfl rfl rfl (by simp only [List.map_toArray, List.map_cons, List.map_nil]; rfl) ?_
              refine (combLess.calls k a0_0 (.int .i64 a0_1) (.slice A0_2 l0_2.length c0_2) w.heap.size gB Ap cp parts Avc Avm t0.length cvc zs.length cvm t0 zs x.1 x.2 gx #[.slice none 0 0, .slice none 0 0] 106 wr _ BM.out BB.out HPC.out HBr.out HVC.out HVM.out hcm.out HGX.out hcx.out hmx.out B2z.out).mono ?_
              rintro e wl692 ⟨rfl, hR, hF, hb, hbx⟩
              refine ⟨_, rfl, ?_⟩
              clear HVC HVM HBr HGX
              have HVC := Aside0.mk hR
              have HVM := Aside0.mk hF
              have HBr := Aside0.mk hb
              have HGX := Aside0.mk hbx
              clear hR hF hb hbx
              refine hK.out _ _ ((blk_cell (blk_below BM.out HBr.out) 2).trans rfl) (fun hHeld => ?_)
              clear hK K
              refine norm_ (a' := ?_) ?_ ?_
              rotate_left
              · show Act.put _ (some 76) _ = _
                simp only [Act.put, List.setIfInBounds_toArray, List.set_cons_zero, List.set_cons_succ, i64_w, i32_w]
                rfl
              exact norm_ (by first | (simp only [putAll, Act.put, List.setIfInBounds_toArray, List.set_cons_zero, List.set_cons_succ]; done) | (simp only [putAll, Act.put, List.setIfInBounds_toArray, List.set_cons_zero, List.set_cons_succ]; rfl)) (hCont ((.slice Avc t0.length cvc), (.slice Avm zs.length cvm), gx) _ ⟨(blk_cell (blk_below BM.out HBr.out) 2).trans rfl, HVC.out, HVM.out, HGX.out, HGW.out, hcm.out, hcx.out, hmx.out, HBr.out⟩)
          · skip
            refine box_step (by rfl) (N := 13) rfl (cs := #[.slice none 0 0, .slice none 0 0]) (t := 106) ?_ ?_
            · first | (go_simp; done) | (go_simp; rfl)
            intro gx hgx wx hbox hb
            have HGX := Aside0.mk hbox
            have HGW : Aside0 (wr.heap.size ≤ gx) := ⟨by rw [hgx]; exact (below_size HBr.out)⟩
            have HB2 := Aside0.mk (below_step HBr.out hb)
            clear HBr
            have HBr := HB2
            clear HB2
            refine hK.out _ _ ((blk_cell (blk_below BM.out HBr.out) 2).trans rfl) (fun hHeld => ?_)
            clear hK K
            refine norm_ (a' := ?_) ?_ ?_
            rotate_left
            · show Act.put _ (some 13) _ = _
              simp only [Act.put, List.setIfInBounds_toArray, List.set_cons_zero, List.set_cons_succ, i64_w, i32_w]
              rfl
            refine two_ (i := 2) (j := 6) (Ni := some 70) (Nj := some 74) #[true, true, true, true, true, true, false, false, false, true, false] #[true, true, false, true, true, true, true, false, false, true, false] rfl rfl rfl rfl (by kernel_rfl) (by decide) (by decide) (fun K hK => ?_) (fun K hK => ?_)
            · skip
              refine goes_ Try.func64 (by kernel_rfl) rfl #[.slice A1 l1.length c1] (by rfl) rfl rfl (by simp only [List.map_toArray, List.map_cons, List.map_nil]; rfl) ?_
              with_reducible refine (slices_Clone_int64_int64.calls A1 c1 l1 t0 _ (Kd.C_below HR1.out (below_step HB.out HBr.out)) HC1.out B1.out).mono ?_
              rintro e wc9 ⟨vc, rfl, ho, hb⟩
              refine ⟨_, rfl, ?_⟩
              obtain ⟨Avc, cvc, evc⟩ := Kd.R_slice ho
              subst evc
              have hcx : Aside0 (∀ k, ((.slice Avc t0.length cvc) : Value).ownBlock = some k → k ≠ gx) := ⟨fun k h1 h2 => by have := blk_lt HGX.out; have := Kd.R_base ho k h1; omega⟩
              have HGX2 := Aside0.mk (blk_below HGX.out hb)
              clear HGX
              have HGX := HGX2
              clear HGX2
              have HVC : Aside0 (Kd.R (Kd.int .i64) 2 wc9 wr.heap.size (fun _ => True) (.slice Avc t0.length cvc) t0) := ⟨Kd.R_lower ho (below_size HBr.out)⟩
              have HB2 := Aside0.mk (below_step HBr.out hb)
              clear HBr
              have HBr := HB2
              clear HB2
              refine hK.out _ _ ((blk_cell (blk_below BM.out HBr.out) 2).trans rfl) (fun hHeld => ?_)
              clear hK K
              refine norm_ (a' := ?_) ?_ ?_
              rotate_left
              · show Act.put _ (some 70) _ = _
                simp only [Act.put, List.setIfInBounds_toArray, List.set_cons_zero, List.set_cons_succ, i64_w, i32_w]
                rfl
              refine one_ (i := 6) (N := some 74) #[true, true, true, true, true, true, true, false, false, true, false] rfl rfl (by kernel_rfl) (by decide) (fun K hK => ?_)
              refine Kd.R_make_step (Kd.int .i64) _ 2 (by rfl) (N := 74) rfl 35 _ _ rfl (l0_2.length : Int) rfl rfl Try.underlying35 (.int .i64 0) 8 info2 rfl (by decide) (by omega) 0 (ok := fun _ => True) (okp := fun _ => True) rfl (fun _ hk => hk) trivial (by omega) (by have := HL20.out; simp only [Int.toNat_natCast]; omega) (Below.refl _ _) (Nat.le_refl _) ?_
              intro vm wm92 ho hb hg_ hnew_
              clear hg_ hnew_
              rw [Int.toNat_natCast, ← HZS.out] at ho
              obtain ⟨Avm, cvm, evm⟩ := Kd.R_slice ho
              subst evm
              have hmx : Aside0 (∀ k, ((.slice Avm zs.length cvm) : Value).ownBlock = some k → k ≠ gx) := ⟨fun k h1 h2 => by have := blk_lt HGX.out; have := Kd.R_base ho k h1; omega⟩
              have HGX2 := Aside0.mk (blk_below HGX.out hb)
              clear HGX
              have HGX := HGX2
              clear HGX2
              have hcm : Aside0 (∀ k, ((.slice Avc t0.length cvc) : Value).ownBlock = some k → ((.slice Avm zs.length cvm) : Value).ownBlock ≠ some k) := ⟨fun k h1 h2 => by have := Kd.R_lt HVC.out k h1; have := Kd.R_base ho k h2; omega⟩
              have HVC2 := Aside0.mk (Kd.R_below HVC.out hb)
              clear HVC
              have HVC := HVC2
              clear HVC2
              have HVM : Aside0 (Kd.R (Kd.int .i64) 2 wm92 wr.heap.size (fun _ => True) (.slice Avm zs.length cvm) zs) := ⟨Kd.R_lower ho (below_size HBr.out)⟩
              have HB2 := Aside0.mk (below_step HBr.out hb)
              clear HBr
              have HBr := HB2
              clear HB2
              refine hK.out _ _ ((blk_cell (blk_below BM.out HBr.out) 2).trans rfl) (fun hHeld => ?_)
              clear hK K
              refine norm_ (a' := ?_) ?_ ?_
              rotate_left
              · show Act.put _ (some 74) _ = _
                simp only [Act.put, List.setIfInBounds_toArray, List.set_cons_zero, List.set_cons_succ, i64_w, i32_w]
                rfl
              refine pure_ (i := 7) (N := some 75) (v := ?_) (a' := ?_) #[true, true, true, true, true, true, true, true, false, true, false] rfl rfl (by kernel_rfl) (fun _ _ _ h => h) (Or.inl ⟨by rfl, ?_⟩) ?_ ?_
              rotate_left
              · intro w'
                first | (go_simp; with_reducible rfl) | (simp [go_sem, Instr.field, asAgg] <;> with_reducible rfl)
              rotate_left
              · simp only [Act.put, List.setIfInBounds_toArray, List.set_cons_zero, List.set_cons_succ, i64_w, i32_w]
                rfl
              refine one_ (i := 8) (N := some 76) #[true, true, true, true, true, true, true, true, true, true, false] rfl rfl (by kernel_rfl) (by decide) (fun K hK => ?_)
              refine combGoes Try.func101 (by kernel_rfl) rfl #[.agg #[(.slice Avc t0.length cvc), (.slice Avm zs.length cvm)]] (by rfl) rfl rfl rfl (by simp only [List.map_toArray, List.map_cons, List.map_nil]; rfl) ?_
              refine (combLess.calls k a0_0 (.int .i64 a0_1) (.slice A0_2 l0_2.length c0_2) w.heap.size gB Ap cp parts Avc Avm t0.length cvc zs.length cvm t0 zs x.1 x.2 gx #[.slice none 0 0, .slice none 0 0] 106 wr _ BM.out BB.out HPC.out HBr.out HVC.out HVM.out hcm.out HGX.out hcx.out hmx.out B2z.out).mono ?_
              rintro e wl926 ⟨rfl, hR, hF, hb, hbx⟩
              refine ⟨_, rfl, ?_⟩
              clear HVC HVM HBr HGX
              have HVC := Aside0.mk hR
              have HVM := Aside0.mk hF
              have HBr := Aside0.mk hb
              have HGX := Aside0.mk hbx
              clear hR hF hb hbx
              refine hK.out _ _ ((blk_cell (blk_below BM.out HBr.out) 2).trans rfl) (fun hHeld => ?_)
              clear hK K
              refine norm_ (a' := ?_) ?_ ?_
              rotate_left
              · show Act.put _ (some 76) _ = _
                simp only [Act.put, List.setIfInBounds_toArray, List.set_cons_zero, List.set_cons_succ, i64_w, i32_w]
                rfl
              exact norm_ (by first | (simp only [putAll, Act.put, List.setIfInBounds_toArray, List.set_cons_zero, List.set_cons_succ]; done) | (simp only [putAll, Act.put, List.setIfInBounds_toArray, List.set_cons_zero, List.set_cons_succ]; rfl)) (hCont ((.slice Avc t0.length cvc), (.slice Avm zs.length cvm), gx) _ ⟨(blk_cell (blk_below BM.out HBr.out) 2).trans rfl, HVC.out, HVM.out, HGX.out, HGW.out, hcm.out, hcx.out, hmx.out, HBr.out⟩)
            · skip
              refine Kd.R_make_step (Kd.int .i64) _ 2 (by rfl) (N := 74) rfl 35 _ _ rfl (l0_2.length : Int) rfl rfl Try.underlying35 (.int .i64 0) 8 info2 rfl (by decide) (by omega) 0 (ok := fun _ => True) (okp := fun _ => True) rfl (fun _ hk => hk) trivial (by omega) (by have := HL20.out; simp only [Int.toNat_natCast]; omega) (Below.refl _ _) (Nat.le_refl _) ?_
              intro vm wm9 ho hb hg_ hnew_
              clear hg_ hnew_
              rw [Int.toNat_natCast, ← HZS.out] at ho
              obtain ⟨Avm, cvm, evm⟩ := Kd.R_slice ho
              subst evm
              have hmx : Aside0 (∀ k, ((.slice Avm zs.length cvm) : Value).ownBlock = some k → k ≠ gx) := ⟨fun k h1 h2 => by have := blk_lt HGX.out; have := Kd.R_base ho k h1; omega⟩
              have HGX2 := Aside0.mk (blk_below HGX.out hb)
              clear HGX
              have HGX := HGX2
              clear HGX2
              have HVM : Aside0 (Kd.R (Kd.int .i64) 2 wm9 wr.heap.size (fun _ => True) (.slice Avm zs.length cvm) zs) := ⟨Kd.R_lower ho (below_size HBr.out)⟩
              have HB2 := Aside0.mk (below_step HBr.out hb)
              clear HBr
              have HBr := HB2
              clear HB2
              refine hK.out _ _ ((blk_cell (blk_below BM.out HBr.out) 2).trans rfl) (fun hHeld => ?_)
              clear hK K
              refine norm_ (a' := ?_) ?_ ?_
              rotate_left
              · show Act.put _ (some 74) _ = _
                simp only [Act.put, List.setIfInBounds_toArray, List.set_cons_zero, List.set_cons_succ, i64_w, i32_w]
                rfl
              refine one_ (i := 2) (N := some 70) #[true, true, true, true, true, true, true, false, false, true, false] rfl rfl (by kernel_rfl) (by decide) (fun K hK => ?_)
              refine goes_ Try.func64 (by kernel_rfl) rfl #[.slice A1 l1.length c1] (by rfl) rfl rfl (by simp only [List.map_toArray, List.map_cons, List.map_nil]; rfl) ?_
              with_reducible refine (slices_Clone_int64_int64.calls A1 c1 l1 t0 _ (Kd.C_below HR1.out (below_step HB.out HBr.out)) HC1.out B1.out).mono ?_
              rintro e wc96 ⟨vc, rfl, ho, hb⟩
              refine ⟨_, rfl, ?_⟩
              obtain ⟨Avc, cvc, evc⟩ := Kd.R_slice ho
              subst evc
              have hcx : Aside0 (∀ k, ((.slice Avc t0.length cvc) : Value).ownBlock = some k → k ≠ gx) := ⟨fun k h1 h2 => by have := blk_lt HGX.out; have := Kd.R_base ho k h1; omega⟩
              have HGX2 := Aside0.mk (blk_below HGX.out hb)
              clear HGX
              have HGX := HGX2
              clear HGX2
              have hcm : Aside0 (∀ k, ((.slice Avc t0.length cvc) : Value).ownBlock = some k → ((.slice Avm zs.length cvm) : Value).ownBlock ≠ some k) := ⟨fun k h1 h2 => by have := Kd.R_lt HVM.out k h2; have := Kd.R_base ho k h1; omega⟩
              have HVM2 := Aside0.mk (Kd.R_below HVM.out hb)
              clear HVM
              have HVM := HVM2
              clear HVM2
              have HVC : Aside0 (Kd.R (Kd.int .i64) 2 wc96 wr.heap.size (fun _ => True) (.slice Avc t0.length cvc) t0) := ⟨Kd.R_lower ho (below_size HBr.out)⟩
              have HB2 := Aside0.mk (below_step HBr.out hb)
              clear HBr
              have HBr := HB2
              clear HB2
              refine hK.out _ _ ((blk_cell (blk_below BM.out HBr.out) 2).trans rfl) (fun hHeld => ?_)
              clear hK K
              refine norm_ (a' := ?_) ?_ ?_
              rotate_left
              · show Act.put _ (some 70) _ = _
                simp only [Act.put, List.setIfInBounds_toArray, List.set_cons_zero, List.set_cons_succ, i64_w, i32_w]
                rfl
              refine pure_ (i := 7) (N := some 75) (v := ?_) (a' := ?_) #[true, true, true, true, true, true, true, true, false, true, false] rfl rfl (by kernel_rfl) (fun _ _ _ h => h) (Or.inl ⟨by rfl, ?_⟩) ?_ ?_
              rotate_left
              · intro w'
                first | (go_simp; with_reducible rfl) | (simp [go_sem, Instr.field, asAgg] <;> with_reducible rfl)
              rotate_left
              · simp only [Act.put, List.setIfInBounds_toArray, List.set_cons_zero, List.set_cons_succ, i64_w, i32_w]
                rfl
              refine one_ (i := 8) (N := some 76) #[true, true, true, true, true, true, true, true, true, true, false] rfl rfl (by kernel_rfl) (by decide) (fun K hK => ?_)
              refine combGoes Try.func101 (by kernel_rfl) rfl #[.agg #[(.slice Avc t0.length cvc), (.slice Avm zs.length cvm)]] (by rfl) rfl rfl rfl (by simp only [List.map_toArray, List.map_cons, List.map_nil]; rfl) ?_
              refine (combLess.calls k a0_0 (.int .i64 a0_1) (.slice A0_2 l0_2.length c0_2) w.heap.size gB Ap cp parts Avc Avm t0.length cvc zs.length cvm t0 zs x.1 x.2 gx #[.slice none 0 0, .slice none 0 0] 106 wr _ BM.out BB.out HPC.out HBr.out HVC.out HVM.out hcm.out HGX.out hcx.out hmx.out B2z.out).mono ?_
              rintro e wl962 ⟨rfl, hR, hF, hb, hbx⟩
              refine ⟨_, rfl, ?_⟩
              clear HVC HVM HBr HGX
              have HVC := Aside0.mk hR
              have HVM := Aside0.mk hF
              have HBr := Aside0.mk hb
              have HGX := Aside0.mk hbx
              clear hR hF hb hbx
              refine hK.out _ _ ((blk_cell (blk_below BM.out HBr.out) 2).trans rfl) (fun hHeld => ?_)
              clear hK K
              refine norm_ (a' := ?_) ?_ ?_
              rotate_left
              · show Act.put _ (some 76) _ = _
                simp only [Act.put, List.setIfInBounds_toArray, List.set_cons_zero, List.set_cons_succ, i64_w, i32_w]
                rfl
              exact norm_ (by first | (simp only [putAll, Act.put, List.setIfInBounds_toArray, List.set_cons_zero, List.set_cons_succ]; done) | (simp only [putAll, Act.put, List.setIfInBounds_toArray, List.set_cons_zero, List.set_cons_succ]; rfl)) (hCont ((.slice Avc t0.length cvc), (.slice Avm zs.length cvm), gx) _ ⟨(blk_cell (blk_below BM.out HBr.out) 2).trans rfl, HVC.out, HVM.out, HGX.out, HGW.out, hcm.out, hcx.out, hmx.out, HBr.out⟩)
        rintro ⟨vc, vm, gx⟩ w16 ⟨hHeld0, hvc, hvm, hgx, hgw, hcm, hcx, hmx, hbr⟩
        obtain ⟨Avc, cvc, evc⟩ := Kd.R_slice hvc
        subst evc
        obtain ⟨Avm, cvm, evm⟩ := Kd.R_slice hvm
        subst evm
        have hHeld : w16.cell? ⟨w.heap.size, 2, none⟩ = some (.slice A0_2 l0_2.length c0_2) := hHeld0
        have HX0 := Aside0.mk (CombX.mk' hvc hvm hgx hbr hcm hcx hmx hgw)
        have hz0 : w16.cell? ⟨gx, 0, none⟩ = some (.slice none 0 0) := (blk_cell hgx 0).trans rfl
        have hz1 : w16.cell? ⟨gx, 1, none⟩ = some (.slice none 0 0) := (blk_cell hgx 1).trans rfl
        have hzf0 := blk_frozen hgx 0
        have hzf1 := blk_frozen hgx 1
        clear hHeld0 hvc hvm hgx hgw hcm hcx hmx hbr
        refine norm_ (a' := ?_) ?_ ?_
        rotate_left
        · simp only [putAll, Act.put, List.setIfInBounds_toArray, List.set_cons_zero, List.set_cons_succ]
          rfl
        refine last_ (i := 10) (N := none) #[true, true, true, true, true, true, true, true, true, true, true] rfl rfl (by kernel_rfl) (by decide) (fun K hK => ?_)
        refine skip_ (w1 := ?_) (by rfl) rfl ?_ ?_
        rotate_left
        · go_simp
          rfl
        refine hK.out _ _ ?_
        clear hK K
        refine done_ (by kernel_rfl) ?_
        clear hHeld hz0 hz1 hzf0 hzf1
        have X17 := Aside0.mk (HX0.out.put (.slice Avc x.1.length cvc) (.slice Avm x.2.length cvm))
        clear HX0
        generalize (w16.setCell ⟨gx, 0, none⟩ (.slice Avc x.1.length cvc)).setCell ⟨gx, 1, none⟩ (.slice Avm x.2.length cvm) = w17 at X17 ⊢
        have hx0 : w17.cell? ⟨gx, 0, none⟩ = some (.slice Avc x.1.length cvc) := (blk_cell X17.out.box 0).trans rfl
        have hx1 : w17.cell? ⟨gx, 1, none⟩ = some (.slice Avm x.2.length cvm) := (blk_cell X17.out.box 1).trans rfl
        by_cases cf : 0 ≤ f
        · have H := H1.out
          rw [if_pos cf] at H
          clear H1
          obtain ⟨rfl, rfl⟩ := (by simpa using H : [] = r1 ∧ false = r2)
          clear H
          have cfb : decide (0 ≤ f) = true := decide_eq_true cf
          replace cf := Aside0.mk cf
          go_wp2_with (first | (go_at_call 102; (with_reducible refine (impl_first.calls k Avc cvc x.1 f _ ?sC ?sL B3.out).mono ?_); (case sC => exact X17.out.cx_); (case sL => exact X17.out.lx); rintro e w18 ⟨rfl, hb⟩; have X18 := Aside0.mk (X17.out.below hb); clear hb X17 hx0 hx1 B3))
          go_ret2
          exact ⟨_, rfl, Kd.R_nil _ _ _ _ _, below_step HB.out X18.out.be⟩
        · have H := H1.out
          rw [if_neg cf] at H
          clear H1
          replace H := Option.bind_eq_some_iff.mp H
          obtain ⟨out, At, H⟩ := H
          have B4 := Aside0.mk At
          clear At
          obtain ⟨rfl, rfl⟩ := (by simpa using H : out = r1 ∧ true = r2)
          clear H
          have cfb : decide (0 ≤ f) = false := decide_eq_false cf
          replace cf := Aside0.mk cf
          go_wp2_with (first | (go_at_call 102; (with_reducible refine (impl_first.calls k Avc cvc x.1 f _ ?sC ?sL B3.out).mono ?_); (case sC => exact X17.out.cx_); (case sL => exact X17.out.lx); rintro e w18 ⟨rfl, hb⟩; have X18 := Aside0.mk (X17.out.below hb); clear hb X17 hx0 hx1 B3; have hm0 : w18.cell? ⟨w.heap.size, 0, none⟩ = some (.int .i64 a0_0) := (blk_cell (blk_below BM.out X18.out.be) 0).trans rfl; have hx1 : w18.cell? ⟨gx, 1, none⟩ = some (.slice Avm x.2.length cvm) := (blk_cell X18.out.box 1).trans rfl) | (go_at_call 69; (with_reducible refine (impl_scaled.calls k a0_0 (fun k_ => some k_ = ((.slice Avm x.2.length cvm) : Value).ownBlock) (.slice Avm x.2.length cvm) x.2 (wrap64 (a0_0 - 1)) out wr _ ?sB ?sR B4.out).mono ?_); (case sB => exact X18.out.be); (case sR => exact X18.out.hf); rintro e w19 ⟨rfl, hR, hb, hK⟩; have X19 := Aside0.mk (X18.out.scf hR hb hK); have HR19 := Aside0.mk hR; clear hR hb hK X18 B4 hm0 hx1; have hx1 : w19.cell? ⟨gx, 1, none⟩ = some (.slice Avm x.2.length cvm) := (blk_cell X19.out.box 1).trans rfl))
          go_ret2
          exact ⟨_, rfl, Kd.R_mono (Kd.R_lower HR19.out (below_size HB.out)) (fun _ _ => trivial), below_step HB.out X19.out.be⟩

end Go.Proofs.Ytjpbemomocccaaa.P

namespace Go.Proofs.Ytjpbemomocccaaa.P
open Go.RowKit Go.Proofs.YtjpbemomocccaaaW.PrintWords Go.Proofs.YtjpbemomocccaaaW.PrintLast Go.Proofs.YtjpbemomocccaaaW.PrintMore
attribute [local go_sem] max2_int min2_int max_two min_two max_three min_three max_four min_four
set_option linter.unusedVariables false
set_option linter.unusedSimpArgs false

/-! ### impl_IsSpanned: function 27 -/
def impl_IsSpanned.f (k : Nat) (a0_0 : Int) (a0_1 : Int) (l0_2 : List (List Int)) (l1 : List Int) : Option (Bool × Int) := (impl_targetCode.f k a0_0 a0_1 l0_2 l1 a0_1).bind fun t446 => (if t446 = 0 then ((impl_Matrix_combination.f k a0_0 a0_1 l0_2 l1).bind fun bt447 => (some (bt447.2, 0))) else (some (false, t446)))
set_option maxHeartbeats 8000000 in
set_option maxRecDepth 100000 in
theorem impl_IsSpanned.calls (k : Nat) (a0_0 : Int) (a0_1 : Int) (A0_2 : Option Addr) (c0_2 : Nat) (l0_2 : List (List Int)) (A1 : Option Addr) (c1 : Nat) (l1 : List Int) (r1 : Bool) (r2 : Int) (w : World) (hr0_2 : Kd.C (Kd.slice 2 (Kd.int .i64)) w A0_2 l0_2.length l0_2) (hc0_2 : l0_2.length ≤ c0_2) (hr1 : Kd.C (Kd.int .i64) w A1 l1.length l1) (hc1 : l1.length ≤ c1) (h : impl_IsSpanned.f k a0_0 a0_1 l0_2 l1 = some (r1, r2)) :
    Calls Try.prog 27 #[.agg #[.int .i64 a0_0, .int .i64 a0_1, .slice A0_2 l0_2.length c0_2], .slice A1 l1.length c1] w fun e w' => e = .returned (.tuple #[.bool r1, .int .i64 r2]) ∧ Below w.heap.size w w' := by
  have hu26 := Try.underlying26
  have HR0_2 := Aside0.mk hr0_2
  have HC0_2 := Aside0.mk hc0_2
  clear hr0_2 hc0_2
  have HR1 := Aside0.mk hr1
  have HC1 := Aside0.mk hc1
  clear hr1 hc1
  have HB := Aside0.mk (Below.refl w.heap.size w)
  have H : ((impl_targetCode.f k a0_0 a0_1 l0_2 l1 a0_1).bind fun t446 => (if t446 = 0 then ((impl_Matrix_combination.f k a0_0 a0_1 l0_2 l1).bind fun bt447 => (some (bt447.2, 0))) else (some (false, t446)))) = some (r1, r2) := h
  clear h
  replace H := Option.bind_eq_some_iff.mp H
  obtain ⟨t446, A30, H⟩ := H
  replace H : (if t446 = 0 then ((impl_Matrix_combination.f k a0_0 a0_1 l0_2 l1).bind fun bt447 => (some (bt447.2, 0))) else (some (false, t446))) = some (r1, r2) := H
  have A3 := Aside0.mk A30
  clear A30
  by_cases c4 : t446 = 0
  · rw [if_pos c4] at H
    have c4b0 : (t446 == 0) = true := beq_iff_eq.mpr c4
    have c4b1 : (t446 != 0) = false := bne_eq_false_iff_eq.mpr c4
    clear c4
    replace H := Option.bind_eq_some_iff.mp H
    obtain ⟨⟨t447, t450⟩, A50, H⟩ := H
    replace H : (some (t450, 0)) = some (r1, r2) := H
    have A5 := Aside0.mk A50
    clear A50
    simp only [Option.some.injEq, Prod.mk.injEq] at H
    obtain ⟨rfl, rfl⟩ := H
    go_enter Try.func27, Try.ntmps27
    go_wp2_with (first | ((with_reducible refine gate_dst (N := 2) rfl ?_); refine box_event ?hg (N := 2) ?hd (cs := #[.int .i64 a0_0, .int .i64 a0_1, .slice A0_2 l0_2.length c0_2]) (t := 26) ?hr ?_; (case hd => rfl); (case hg => rfl); (case hr => first | (go_simp; done) | (go_simp; rfl)); intro gb445 hg w6 hbox hb; have n0_ := Aside0.mk (below_step (by repeat (first | (with_reducible first | exact HB.out | apply below_alloc | apply pw_below_drewN | apply below_drew1) | exact HB.out)) hb); have n1_ := Aside0.mk (hbox); have n2_ := Aside0.mk ((by rw [hg]; exact (below_size (by repeat (first | (with_reducible first | exact HB.out | apply below_alloc | apply pw_below_drewN | apply below_drew1) | exact HB.out))) : w.heap.size ≤ gb445)); have n3_ := Aside0.mk ((by rw [hg]; exact (below_size (by repeat (first | (with_reducible first | exact HB.out | apply below_alloc | apply pw_below_drewN | apply below_drew1) | exact HB.out))) : w.heap.size ≤ gb445)); clear HB; have HB := n0_; have BK445 := n1_; have GW445 := n2_; have GE445 := n3_; clear n0_ n1_ n2_ n3_; clear hb hbox hg; have hcz7_0 : w6.cell? ⟨gb445, 0, none⟩ = some (.int .i64 a0_0) := (blk_cell BK445.out 0).trans rfl; have hcz7_1 : w6.cell? ⟨gb445, 1, none⟩ = some (.int .i64 a0_1) := (blk_cell BK445.out 1).trans rfl; have hcz7_2 : w6.cell? ⟨gb445, 2, none⟩ = some (.slice A0_2 l0_2.length c0_2) := (blk_cell BK445.out 2).trans rfl; have hfz7_0 := blk_frozen BK445.out 0; have hfz7_1 := blk_frozen BK445.out 1; have hfz7_2 := blk_frozen BK445.out 2) | ((with_reducible refine gate_callee (f := 74) rfl ?_); refine goesL_ (some 13) rfl rfl Try.func74 (by kernel_rfl) rfl #[.agg #[.int .i64 a0_0, .int .i64 a0_1, .slice A0_2 l0_2.length c0_2], .slice A1 l1.length c1, .int .i64 a0_1] rfl (by (try simp only [List.map_toArray, List.map_cons, List.map_nil]); first | done | rfl | (simp only [List.length_drop, List.length_take]; rfl)) ?_; (with_reducible refine (impl_targetCode.calls k a0_0 a0_1 _ _ l0_2 _ _ l1 a0_1 t446 _ ?side1 ?side2 ?side3 ?side4 A3.out).mono ?_); (case side1 => repeat (first | exact (Kd.C_below HR0_2.out HB.out) | (with_reducible refine Kd.C_alloc ?_ _) | (with_reducible refine Kd.C_drewN ?_ _) | (with_reducible refine Kd.C_drew ?_))); (case side2 => exact HC0_2.out); (case side3 => repeat (first | exact (Kd.C_below HR1.out HB.out) | (with_reducible refine Kd.C_alloc ?_ _) | (with_reducible refine Kd.C_drewN ?_ _) | (with_reducible refine Kd.C_drew ?_))); (case side4 => exact HC1.out); rintro e w8 ⟨rfl, hb⟩; refine ⟨_, rfl, ?_⟩; have n0_ := Aside0.mk (blk_below (g := gb445) (o := .cells #[.int .i64 a0_0, .int .i64 a0_1, .slice A0_2 l0_2.length c0_2] 26 (0, 0)) (by (with_reducible repeat (first | refine blk_drewN ?_ _ | refine blk_drew ?_ | refine blk_alloc ?_ _)); exact BK445.out) hb); have n1_ := Aside0.mk (below_step (by repeat (first | (with_reducible first | exact HB.out | apply below_alloc | apply pw_below_drewN | apply below_drew1 | refine below_set ?_ GE445.out) | exact HB.out)) hb); clear BK445; clear HB; have BK445 := n0_; have HB := n1_; clear n0_ n1_; (try clear hb); (try clear hb2); (try clear hk); (try clear hi); have hcz9_0 : w8.cell? ⟨gb445, 0, none⟩ = some (.int .i64 a0_0) := (blk_cell BK445.out 0).trans rfl; have hcz9_1 : w8.cell? ⟨gb445, 1, none⟩ = some (.int .i64 a0_1) := (blk_cell BK445.out 1).trans rfl; have hcz9_2 : w8.cell? ⟨gb445, 2, none⟩ = some (.slice A0_2 l0_2.length c0_2) := (blk_cell BK445.out 2).trans rfl; have hfz9_0 := blk_frozen BK445.out 0; have hfz9_1 := blk_frozen BK445.out 1; have hfz9_2 := blk_frozen BK445.out 2) | ((with_reducible refine gate_callee (f := 75) rfl ?_); refine goesL_ (some 20) rfl rfl Try.func75 (by kernel_rfl) rfl #[.agg #[.int .i64 a0_0, .int .i64 a0_1, .slice A0_2 l0_2.length c0_2], .slice A1 l1.length c1] rfl (by (try simp only [List.map_toArray, List.map_cons, List.map_nil]); first | done | rfl | (simp only [List.length_drop, List.length_take]; rfl)) ?_; (with_reducible refine (impl_Matrix_combination.calls k a0_0 a0_1 _ _ l0_2 _ _ l1 t447 t450 _ ?side1 ?side2 ?side3 ?side4 A5.out).mono ?_); (case side1 => repeat (first | exact (Kd.C_below HR0_2.out HB.out) | (with_reducible refine Kd.C_alloc ?_ _) | (with_reducible refine Kd.C_drewN ?_ _) | (with_reducible refine Kd.C_drew ?_))); (case side2 => exact HC0_2.out); (case side3 => repeat (first | exact (Kd.C_below HR1.out HB.out) | (with_reducible refine Kd.C_alloc ?_ _) | (with_reducible refine Kd.C_drewN ?_ _) | (with_reducible refine Kd.C_drew ?_))); (case side4 => exact HC1.out); rintro e w10 ⟨v448, rfl, ho0, hb⟩; refine ⟨_, rfl, ?_⟩; have n0_ := Aside0.mk (Kd.R_lower ho0 (below_size (by repeat (first | (with_reducible first | exact HB.out | apply below_alloc | apply pw_below_drewN | apply below_drew1 | refine below_set ?_ GE445.out) | exact HB.out)))); have n1_ := Aside0.mk (blk_below (g := gb445) (o := .cells #[.int .i64 a0_0, .int .i64 a0_1, .slice A0_2 l0_2.length c0_2] 26 (0, 0)) (by (with_reducible repeat (first | refine blk_drewN ?_ _ | refine blk_drew ?_ | refine blk_alloc ?_ _)); exact BK445.out) hb); have n2_ := Aside0.mk (below_step (by repeat (first | (with_reducible first | exact HB.out | apply below_alloc | apply pw_below_drewN | apply below_drew1 | refine below_set ?_ GE445.out) | exact HB.out)) hb); clear BK445; clear HB; have HO449 := n0_; have BK445 := n1_; have HB := n2_; clear n0_ n1_ n2_; (try clear hb); (try clear hb2); (try clear hk); (try clear hi); (try clear ho0)))
    go_ret2
    exact ⟨by first | rfl | (simp [errW_none, errW_some] <;> rfl) | (simp [*, errW_none, errW_some] <;> rfl), by repeat (first | (with_reducible first | exact HB.out | apply below_alloc | apply pw_below_drewN | apply below_drew1 | refine below_set ?_ GE445.out) | exact HB.out)⟩
  · rw [if_neg c4] at H
    have c4b0 : (t446 == 0) = false := beq_eq_false_iff_ne.mpr c4
    have c4b1 : (t446 != 0) = true := bne_iff_ne.mpr c4
    simp only [Option.some.injEq, Prod.mk.injEq] at H
    obtain ⟨rfl, rfl⟩ := H
    go_enter Try.func27, Try.ntmps27
    go_wp2_with (first | ((with_reducible refine gate_dst (N := 2) rfl ?_); refine box_event ?hg (N := 2) ?hd (cs := #[.int .i64 a0_0, .int .i64 a0_1, .slice A0_2 l0_2.length c0_2]) (t := 26) ?hr ?_; (case hd => rfl); (case hg => rfl); (case hr => first | (go_simp; done) | (go_simp; rfl)); intro gb445 hg w11 hbox hb; have n0_ := Aside0.mk (below_step (by repeat (first | (with_reducible first | exact HB.out | apply below_alloc | apply pw_below_drewN | apply below_drew1) | exact HB.out)) hb); have n1_ := Aside0.mk (hbox); have n2_ := Aside0.mk ((by rw [hg]; exact (below_size (by repeat (first | (with_reducible first | exact HB.out | apply below_alloc | apply pw_below_drewN | apply below_drew1) | exact HB.out))) : w.heap.size ≤ gb445)); have n3_ := Aside0.mk ((by rw [hg]; exact (below_size (by repeat (first | (with_reducible first | exact HB.out | apply below_alloc | apply pw_below_drewN | apply below_drew1) | exact HB.out))) : w.heap.size ≤ gb445)); clear HB; have HB := n0_; have BK445 := n1_; have GW445 := n2_; have GE445 := n3_; clear n0_ n1_ n2_ n3_; clear hb hbox hg; have hcz12_0 : w11.cell? ⟨gb445, 0, none⟩ = some (.int .i64 a0_0) := (blk_cell BK445.out 0).trans rfl; have hcz12_1 : w11.cell? ⟨gb445, 1, none⟩ = some (.int .i64 a0_1) := (blk_cell BK445.out 1).trans rfl; have hcz12_2 : w11.cell? ⟨gb445, 2, none⟩ = some (.slice A0_2 l0_2.length c0_2) := (blk_cell BK445.out 2).trans rfl; have hfz12_0 := blk_frozen BK445.out 0; have hfz12_1 := blk_frozen BK445.out 1; have hfz12_2 := blk_frozen BK445.out 2) | ((with_reducible refine gate_callee (f := 74) rfl ?_); refine goesL_ (some 13) rfl rfl Try.func74 (by kernel_rfl) rfl #[.agg #[.int .i64 a0_0, .int .i64 a0_1, .slice A0_2 l0_2.length c0_2], .slice A1 l1.length c1, .int .i64 a0_1] rfl (by (try simp only [List.map_toArray, List.map_cons, List.map_nil]); first | done | rfl | (simp only [List.length_drop, List.length_take]; rfl)) ?_; (with_reducible refine (impl_targetCode.calls k a0_0 a0_1 _ _ l0_2 _ _ l1 a0_1 t446 _ ?side1 ?side2 ?side3 ?side4 A3.out).mono ?_); (case side1 => repeat (first | exact (Kd.C_below HR0_2.out HB.out) | (with_reducible refine Kd.C_alloc ?_ _) | (with_reducible refine Kd.C_drewN ?_ _) | (with_reducible refine Kd.C_drew ?_))); (case side2 => exact HC0_2.out); (case side3 => repeat (first | exact (Kd.C_below HR1.out HB.out) | (with_reducible refine Kd.C_alloc ?_ _) | (with_reducible refine Kd.C_drewN ?_ _) | (with_reducible refine Kd.C_drew ?_))); (case side4 => exact HC1.out); rintro e w13 ⟨rfl, hb⟩; refine ⟨_, rfl, ?_⟩; have n0_ := Aside0.mk (blk_below (g := gb445) (o := .cells #[.int .i64 a0_0, .int .i64 a0_1, .slice A0_2 l0_2.length c0_2] 26 (0, 0)) (by (with_reducible repeat (first | refine blk_drewN ?_ _ | refine blk_drew ?_ | refine blk_alloc ?_ _)); exact BK445.out) hb); have n1_ := Aside0.mk (below_step (by repeat (first | (with_reducible first | exact HB.out | apply below_alloc | apply pw_below_drewN | apply below_drew1 | refine below_set ?_ GE445.out) | exact HB.out)) hb); clear BK445; clear HB; have BK445 := n0_; have HB := n1_; clear n0_ n1_; (try clear hb); (try clear hb2); (try clear hk); (try clear hi)))
    go_ret2
    exact ⟨by first | rfl | (simp [errW_none, errW_some] <;> rfl) | (simp [*, errW_none, errW_some] <;> rfl), by repeat (first | (with_reducible first | exact HB.out | apply below_alloc | apply pw_below_drewN | apply below_drew1 | refine below_set ?_ GE445.out) | exact HB.out)⟩

end Go.Proofs.Ytjpbemomocccaaa.P

namespace Go.Proofs.Ytjpbemomocccaaa.P
open Go.RowKit Go.Proofs.YtjpbemomocccaaaW.PrintWords Go.Proofs.YtjpbemomocccaaaW.PrintLast Go.Proofs.YtjpbemomocccaaaW.PrintMore
attribute [local go_sem] max2_int min2_int max_two min_two max_three min_three max_four min_four
set_option linter.unusedVariables false
set_option linter.unusedSimpArgs false

/-! ### impl_Combination: function 30 -/
def impl_Combination.f (k : Nat) (a0_0 : Int) (a0_1 : Int) (l0_2 : List (List Int)) (l1 : List Int) : Option (List Int × Int) := (impl_targetCode.f k a0_0 a0_1 l0_2 l1 a0_1).bind fun t464 => (if t464 = 0 then ((impl_Matrix_combination.f k a0_0 a0_1 l0_2 l1).bind fun bt465 => (if bt465.2 = true then (some (bt465.1, 0)) else (some (([] : List Int), 6)))) else (some (([] : List Int), t464)))
set_option maxHeartbeats 8000000 in
set_option maxRecDepth 100000 in
theorem impl_Combination.calls (k : Nat) (a0_0 : Int) (a0_1 : Int) (A0_2 : Option Addr) (c0_2 : Nat) (l0_2 : List (List Int)) (A1 : Option Addr) (c1 : Nat) (l1 : List Int) (r1 : List Int) (r2 : Int) (w : World) (hr0_2 : Kd.C (Kd.slice 2 (Kd.int .i64)) w A0_2 l0_2.length l0_2) (hc0_2 : l0_2.length ≤ c0_2) (hr1 : Kd.C (Kd.int .i64) w A1 l1.length l1) (hc1 : l1.length ≤ c1) (h : impl_Combination.f k a0_0 a0_1 l0_2 l1 = some (r1, r2)) :
    Calls Try.prog 30 #[.agg #[.int .i64 a0_0, .int .i64 a0_1, .slice A0_2 l0_2.length c0_2], .slice A1 l1.length c1] w fun e w' => ∃ v0_ : Value, e = .returned (.tuple #[v0_, .int .i64 r2]) ∧ Kd.R (Kd.int .i64) 2 w' w.heap.size (fun _ => True) v0_ r1 ∧ Below w.heap.size w w' := by
  have hu26 := Try.underlying26
  have HR0_2 := Aside0.mk hr0_2
  have HC0_2 := Aside0.mk hc0_2
  clear hr0_2 hc0_2
  have HR1 := Aside0.mk hr1
  have HC1 := Aside0.mk hc1
  clear hr1 hc1
  have HB := Aside0.mk (Below.refl w.heap.size w)
  have H : ((impl_targetCode.f k a0_0 a0_1 l0_2 l1 a0_1).bind fun t464 => (if t464 = 0 then ((impl_Matrix_combination.f k a0_0 a0_1 l0_2 l1).bind fun bt465 => (if bt465.2 = true then (some (bt465.1, 0)) else (some (([] : List Int), 6)))) else (some (([] : List Int), t464)))) = some (r1, r2) := h
  clear h
  replace H := Option.bind_eq_some_iff.mp H
  obtain ⟨t464, A30, H⟩ := H
  replace H : (if t464 = 0 then ((impl_Matrix_combination.f k a0_0 a0_1 l0_2 l1).bind fun bt465 => (if bt465.2 = true then (some (bt465.1, 0)) else (some (([] : List Int), 6)))) else (some (([] : List Int), t464))) = some (r1, r2) := H
  have A3 := Aside0.mk A30
  clear A30
  by_cases c4 : t464 = 0
  · rw [if_pos c4] at H
    have c4b0 : (t464 == 0) = true := beq_iff_eq.mpr c4
    have c4b1 : (t464 != 0) = false := bne_eq_false_iff_eq.mpr c4
    clear c4
    replace H := Option.bind_eq_some_iff.mp H
    obtain ⟨⟨t465, t468⟩, A50, H⟩ := H
    replace H : (if t468 = true then (some (t465, 0)) else (some (([] : List Int), 6))) = some (r1, r2) := H
    have A5 := Aside0.mk A50
    clear A50
    by_cases c6 : t468 = true
    · subst c6
      have H1 : (some (t465, 0)) = some (r1, r2) := by rw [if_pos rfl] at H; exact H
      clear H
      have H := H1
      clear H1
      simp only [Option.some.injEq, Prod.mk.injEq] at H
      obtain ⟨rfl, rfl⟩ := H
      go_enter Try.func30, Try.ntmps30
      go_wp2_with (first | ((with_reducible refine gate_dst (N := 2) rfl ?_); refine box_event ?hg (N := 2) ?hd (cs := #[.int .i64 a0_0, .int .i64 a0_1, .slice A0_2 l0_2.length c0_2]) (t := 26) ?hr ?_; (case hd => rfl); (case hg => rfl); (case hr => first | (go_simp; done) | (go_simp; rfl)); intro gb463 hg w7 hbox hb; have n0_ := Aside0.mk (below_step (by repeat (first | (with_reducible first | exact HB.out | apply below_alloc | apply pw_below_drewN | apply below_drew1) | exact HB.out)) hb); have n1_ := Aside0.mk (hbox); have n2_ := Aside0.mk ((by rw [hg]; exact (below_size (by repeat (first | (with_reducible first | exact HB.out | apply below_alloc | apply pw_below_drewN | apply below_drew1) | exact HB.out))) : w.heap.size ≤ gb463)); have n3_ := Aside0.mk ((by rw [hg]; exact (below_size (by repeat (first | (with_reducible first | exact HB.out | apply below_alloc | apply pw_below_drewN | apply below_drew1) | exact HB.out))) : w.heap.size ≤ gb463)); clear HB; have HB := n0_; have BK463 := n1_; have GW463 := n2_; have GE463 := n3_; clear n0_ n1_ n2_ n3_; clear hb hbox hg; have hcz8_0 : w7.cell? ⟨gb463, 0, none⟩ = some (.int .i64 a0_0) := (blk_cell BK463.out 0).trans rfl; have hcz8_1 : w7.cell? ⟨gb463, 1, none⟩ = some (.int .i64 a0_1) := (blk_cell BK463.out 1).trans rfl; have hcz8_2 : w7.cell? ⟨gb463, 2, none⟩ = some (.slice A0_2 l0_2.length c0_2) := (blk_cell BK463.out 2).trans rfl; have hfz8_0 := blk_frozen BK463.out 0; have hfz8_1 := blk_frozen BK463.out 1; have hfz8_2 := blk_frozen BK463.out 2) | ((with_reducible refine gate_callee (f := 74) rfl ?_); refine goesL_ (some 13) rfl rfl Try.func74 (by kernel_rfl) rfl #[.agg #[.int .i64 a0_0, .int .i64 a0_1, .slice A0_2 l0_2.length c0_2], .slice A1 l1.length c1, .int .i64 a0_1] rfl (by (try simp only [List.map_toArray, List.map_cons, List.map_nil]); first | done | rfl | (simp only [List.length_drop, List.length_take]; rfl)) ?_; (with_reducible refine (impl_targetCode.calls k a0_0 a0_1 _ _ l0_2 _ _ l1 a0_1 t464 _ ?side1 ?side2 ?side3 ?side4 A3.out).mono ?_); (case side1 => repeat (first | exact (Kd.C_below HR0_2.out HB.out) | (with_reducible refine Kd.C_alloc ?_ _) | (with_reducible refine Kd.C_drewN ?_ _) | (with_reducible refine Kd.C_drew ?_))); (case side2 => exact HC0_2.out); (case side3 => repeat (first | exact (Kd.C_below HR1.out HB.out) | (with_reducible refine Kd.C_alloc ?_ _) | (with_reducible refine Kd.C_drewN ?_ _) | (with_reducible refine Kd.C_drew ?_))); (case side4 => exact HC1.out); rintro e w9 ⟨rfl, hb⟩; refine ⟨_, rfl, ?_⟩; have n0_ := Aside0.mk (blk_below (g := gb463) (o := .cells #[.int .i64 a0_0, .int .i64 a0_1, .slice A0_2 l0_2.length c0_2] 26 (0, 0)) (by (with_reducible repeat (first | refine blk_drewN ?_ _ | refine blk_drew ?_ | refine blk_alloc ?_ _)); exact BK463.out) hb); have n1_ := Aside0.mk (below_step (by repeat (first | (with_reducible first | exact HB.out | apply below_alloc | apply pw_below_drewN | apply below_drew1 | refine below_set ?_ GE463.out) | exact HB.out)) hb); clear BK463; clear HB; have BK463 := n0_; have HB := n1_; clear n0_ n1_; (try clear hb); (try clear hb2); (try clear hk); (try clear hi); have hcz10_0 : w9.cell? ⟨gb463, 0, none⟩ = some (.int .i64 a0_0) := (blk_cell BK463.out 0).trans rfl; have hcz10_1 : w9.cell? ⟨gb463, 1, none⟩ = some (.int .i64 a0_1) := (blk_cell BK463.out 1).trans rfl; have hcz10_2 : w9.cell? ⟨gb463, 2, none⟩ = some (.slice A0_2 l0_2.length c0_2) := (blk_cell BK463.out 2).trans rfl; have hfz10_0 := blk_frozen BK463.out 0; have hfz10_1 := blk_frozen BK463.out 1; have hfz10_2 := blk_frozen BK463.out 2) | ((with_reducible refine gate_callee (f := 75) rfl ?_); refine goesL_ (some 20) rfl rfl Try.func75 (by kernel_rfl) rfl #[.agg #[.int .i64 a0_0, .int .i64 a0_1, .slice A0_2 l0_2.length c0_2], .slice A1 l1.length c1] rfl (by (try simp only [List.map_toArray, List.map_cons, List.map_nil]); first | done | rfl | (simp only [List.length_drop, List.length_take]; rfl)) ?_; (with_reducible refine (impl_Matrix_combination.calls k a0_0 a0_1 _ _ l0_2 _ _ l1 t465 true _ ?side1 ?side2 ?side3 ?side4 A5.out).mono ?_); (case side1 => repeat (first | exact (Kd.C_below HR0_2.out HB.out) | (with_reducible refine Kd.C_alloc ?_ _) | (with_reducible refine Kd.C_drewN ?_ _) | (with_reducible refine Kd.C_drew ?_))); (case side2 => exact HC0_2.out); (case side3 => repeat (first | exact (Kd.C_below HR1.out HB.out) | (with_reducible refine Kd.C_alloc ?_ _) | (with_reducible refine Kd.C_drewN ?_ _) | (with_reducible refine Kd.C_drew ?_))); (case side4 => exact HC1.out); rintro e w11 ⟨v466, rfl, ho0, hb⟩; refine ⟨_, rfl, ?_⟩; have n0_ := Aside0.mk (Kd.R_lower ho0 (below_size (by repeat (first | (with_reducible first | exact HB.out | apply below_alloc | apply pw_below_drewN | apply below_drew1 | refine below_set ?_ GE463.out) | exact HB.out)))); have n1_ := Aside0.mk (blk_below (g := gb463) (o := .cells #[.int .i64 a0_0, .int .i64 a0_1, .slice A0_2 l0_2.length c0_2] 26 (0, 0)) (by (with_reducible repeat (first | refine blk_drewN ?_ _ | refine blk_drew ?_ | refine blk_alloc ?_ _)); exact BK463.out) hb); have n2_ := Aside0.mk (below_step (by repeat (first | (with_reducible first | exact HB.out | apply below_alloc | apply pw_below_drewN | apply below_drew1 | refine below_set ?_ GE463.out) | exact HB.out)) hb); clear BK463; clear HB; have HO467 := n0_; have BK463 := n1_; have HB := n2_; clear n0_ n1_ n2_; (try clear hb); (try clear hb2); (try clear hk); (try clear hi); (try clear ho0)))
      go_ret2
      exact ⟨_, by first | rfl | (simp [errW_none, errW_some] <;> rfl) | (simp [*, errW_none, errW_some] <;> rfl), by (with_reducible repeat (first | apply Kd.R_alloc | apply Kd.R_drewN | apply Kd.R_drew)); exact HO467.out, by repeat (first | (with_reducible first | exact HB.out | apply below_alloc | apply pw_below_drewN | apply below_drew1 | refine below_set ?_ GE463.out) | exact HB.out)⟩
    · replace c6 := Bool.eq_false_iff.mpr c6
      subst c6
      have H1 : (some (([] : List Int), 6)) = some (r1, r2) := by rw [if_neg (show ¬ (false = true) by decide)] at H; exact H
      clear H
      have H := H1
      clear H1
      simp only [Option.some.injEq, Prod.mk.injEq] at H
      obtain ⟨rfl, rfl⟩ := H
      go_enter Try.func30, Try.ntmps30
      go_wp2_with (first | ((with_reducible refine gate_dst (N := 2) rfl ?_); refine box_event ?hg (N := 2) ?hd (cs := #[.int .i64 a0_0, .int .i64 a0_1, .slice A0_2 l0_2.length c0_2]) (t := 26) ?hr ?_; (case hd => rfl); (case hg => rfl); (case hr => first | (go_simp; done) | (go_simp; rfl)); intro gb463 hg w12 hbox hb; have n0_ := Aside0.mk (below_step (by repeat (first | (with_reducible first | exact HB.out | apply below_alloc | apply pw_below_drewN | apply below_drew1) | exact HB.out)) hb); have n1_ := Aside0.mk (hbox); have n2_ := Aside0.mk ((by rw [hg]; exact (below_size (by repeat (first | (with_reducible first | exact HB.out | apply below_alloc | apply pw_below_drewN | apply below_drew1) | exact HB.out))) : w.heap.size ≤ gb463)); have n3_ := Aside0.mk ((by rw [hg]; exact (below_size (by repeat (first | (with_reducible first | exact HB.out | apply below_alloc | apply pw_below_drewN | apply below_drew1) | exact HB.out))) : w.heap.size ≤ gb463)); clear HB; have HB := n0_; have BK463 := n1_; have GW463 := n2_; have GE463 := n3_; clear n0_ n1_ n2_ n3_; clear hb hbox hg; have hcz13_0 : w12.cell? ⟨gb463, 0, none⟩ = some (.int .i64 a0_0) := (blk_cell BK463.out 0).trans rfl; have hcz13_1 : w12.cell? ⟨gb463, 1, none⟩ = some (.int .i64 a0_1) := (blk_cell BK463.out 1).trans rfl; have hcz13_2 : w12.cell? ⟨gb463, 2, none⟩ = some (.slice A0_2 l0_2.length c0_2) := (blk_cell BK463.out 2).trans rfl; have hfz13_0 := blk_frozen BK463.out 0; have hfz13_1 := blk_frozen BK463.out 1; have hfz13_2 := blk_frozen BK463.out 2) | ((with_reducible refine gate_callee (f := 74) rfl ?_); refine goesL_ (some 13) rfl rfl Try.func74 (by kernel_rfl) rfl #[.agg #[.int .i64 a0_0, .int .i64 a0_1, .slice A0_2 l0_2.length c0_2], .slice A1 l1.length c1, .int .i64 a0_1] rfl (by (try simp only [List.map_toArray, List.map_cons, List.map_nil]); first | done | rfl | (simp only [List.length_drop, List.length_take]; rfl)) ?_; (with_reducible refine (impl_targetCode.calls k a0_0 a0_1 _ _ l0_2 _ _ l1 a0_1 t464 _ ?side1 ?side2 ?side3 ?side4 A3.out).mono ?_); (case side1 => repeat (first | exact (Kd.C_below HR0_2.out HB.out) | (with_reducible refine Kd.C_alloc ?_ _) | (with_reducible refine Kd.C_drewN ?_ _) | (with_reducible refine Kd.C_drew ?_))); (case side2 => exact HC0_2.out); (case side3 => repeat (first | exact (Kd.C_below HR1.out HB.out) | (with_reducible refine Kd.C_alloc ?_ _) | (with_reducible refine Kd.C_drewN ?_ _) | (with_reducible refine Kd.C_drew ?_))); (case side4 => exact HC1.out); rintro e w14 ⟨rfl, hb⟩; refine ⟨_, rfl, ?_⟩; have n0_ := Aside0.mk (blk_below (g := gb463) (o := .cells #[.int .i64 a0_0, .int .i64 a0_1, .slice A0_2 l0_2.length c0_2] 26 (0, 0)) (by (with_reducible repeat (first | refine blk_drewN ?_ _ | refine blk_drew ?_ | refine blk_alloc ?_ _)); exact BK463.out) hb); have n1_ := Aside0.mk (below_step (by repeat (first | (with_reducible first | exact HB.out | apply below_alloc | apply pw_below_drewN | apply below_drew1 | refine below_set ?_ GE463.out) | exact HB.out)) hb); clear BK463; clear HB; have BK463 := n0_; have HB := n1_; clear n0_ n1_; (try clear hb); (try clear hb2); (try clear hk); (try clear hi); have hcz15_0 : w14.cell? ⟨gb463, 0, none⟩ = some (.int .i64 a0_0) := (blk_cell BK463.out 0).trans rfl; have hcz15_1 : w14.cell? ⟨gb463, 1, none⟩ = some (.int .i64 a0_1) := (blk_cell BK463.out 1).trans rfl; have hcz15_2 : w14.cell? ⟨gb463, 2, none⟩ = some (.slice A0_2 l0_2.length c0_2) := (blk_cell BK463.out 2).trans rfl; have hfz15_0 := blk_frozen BK463.out 0; have hfz15_1 := blk_frozen BK463.out 1; have hfz15_2 := blk_frozen BK463.out 2) | ((with_reducible refine gate_callee (f := 75) rfl ?_); refine goesL_ (some 20) rfl rfl Try.func75 (by kernel_rfl) rfl #[.agg #[.int .i64 a0_0, .int .i64 a0_1, .slice A0_2 l0_2.length c0_2], .slice A1 l1.length c1] rfl (by (try simp only [List.map_toArray, List.map_cons, List.map_nil]); first | done | rfl | (simp only [List.length_drop, List.length_take]; rfl)) ?_; (with_reducible refine (impl_Matrix_combination.calls k a0_0 a0_1 _ _ l0_2 _ _ l1 t465 false _ ?side1 ?side2 ?side3 ?side4 A5.out).mono ?_); (case side1 => repeat (first | exact (Kd.C_below HR0_2.out HB.out) | (with_reducible refine Kd.C_alloc ?_ _) | (with_reducible refine Kd.C_drewN ?_ _) | (with_reducible refine Kd.C_drew ?_))); (case side2 => exact HC0_2.out); (case side3 => repeat (first | exact (Kd.C_below HR1.out HB.out) | (with_reducible refine Kd.C_alloc ?_ _) | (with_reducible refine Kd.C_drewN ?_ _) | (with_reducible refine Kd.C_drew ?_))); (case side4 => exact HC1.out); rintro e w16 ⟨v466, rfl, ho0, hb⟩; refine ⟨_, rfl, ?_⟩; have n0_ := Aside0.mk (Kd.R_lower ho0 (below_size (by repeat (first | (with_reducible first | exact HB.out | apply below_alloc | apply pw_below_drewN | apply below_drew1 | refine below_set ?_ GE463.out) | exact HB.out)))); have n1_ := Aside0.mk (blk_below (g := gb463) (o := .cells #[.int .i64 a0_0, .int .i64 a0_1, .slice A0_2 l0_2.length c0_2] 26 (0, 0)) (by (with_reducible repeat (first | refine blk_drewN ?_ _ | refine blk_drew ?_ | refine blk_alloc ?_ _)); exact BK463.out) hb); have n2_ := Aside0.mk (below_step (by repeat (first | (with_reducible first | exact HB.out | apply below_alloc | apply pw_below_drewN | apply below_drew1 | refine below_set ?_ GE463.out) | exact HB.out)) hb); clear BK463; clear HB; have HO467 := n0_; have BK463 := n1_; have HB := n2_; clear n0_ n1_ n2_; (try clear hb); (try clear hb2); (try clear hk); (try clear hi); (try clear ho0)))
      go_ret2
      exact ⟨_, by first | rfl | (simp [errW_none, errW_some] <;> rfl) | (simp [*, errW_none, errW_some] <;> rfl), by first | exact Kd.R_nil _ _ _ _ _ | exact Kd.N_nil _ _ _ _ _ | exact Kd.V_nil _ _ _ _ _ | exact Kd.Q_nil _ _ _ _ _ | exact Kd.S_nil _ _ _ _ _, by repeat (first | (with_reducible first | exact HB.out | apply below_alloc | apply pw_below_drewN | apply below_drew1 | refine below_set ?_ GE463.out) | exact HB.out)⟩
  · rw [if_neg c4] at H
    have c4b0 : (t464 == 0) = false := beq_eq_false_iff_ne.mpr c4
    have c4b1 : (t464 != 0) = true := bne_iff_ne.mpr c4
    simp only [Option.some.injEq, Prod.mk.injEq] at H
    obtain ⟨rfl, rfl⟩ := H
    go_enter Try.func30, Try.ntmps30
    go_wp2_with (first | ((with_reducible refine gate_dst (N := 2) rfl ?_); refine box_event ?hg (N := 2) ?hd (cs := #[.int .i64 a0_0, .int .i64 a0_1, .slice A0_2 l0_2.length c0_2]) (t := 26) ?hr ?_; (case hd => rfl); (case hg => rfl); (case hr => first | (go_simp; done) | (go_simp; rfl)); intro gb463 hg w17 hbox hb; have n0_ := Aside0.mk (below_step (by repeat (first | (with_reducible first | exact HB.out | apply below_alloc | apply pw_below_drewN | apply below_drew1) | exact HB.out)) hb); have n1_ := Aside0.mk (hbox); have n2_ := Aside0.mk ((by rw [hg]; exact (below_size (by repeat (first | (with_reducible first | exact HB.out | apply below_alloc | apply pw_below_drewN | apply below_drew1) | exact HB.out))) : w.heap.size ≤ gb463)); have n3_ := Aside0.mk ((by rw [hg]; exact (below_size (by repeat (first | (with_reducible first | exact HB.out | apply below_alloc | apply pw_below_drewN | apply below_drew1) | exact HB.out))) : w.heap.size ≤ gb463)); clear HB; have HB := n0_; have BK463 := n1_; have GW463 := n2_; have GE463 := n3_; clear n0_ n1_ n2_ n3_; clear hb hbox hg; have hcz18_0 : w17.cell? ⟨gb463, 0, none⟩ = some (.int .i64 a0_0) := (blk_cell BK463.out 0).trans rfl; have hcz18_1 : w17.cell? ⟨gb463, 1, none⟩ = some (.int .i64 a0_1) := (blk_cell BK463.out 1).trans rfl; have hcz18_2 : w17.cell? ⟨gb463, 2, none⟩ = some (.slice A0_2 l0_2.length c0_2) := (blk_cell BK463.out 2).trans rfl; have hfz18_0 := blk_frozen BK463.out 0; have hfz18_1 := blk_frozen BK463.out 1; have hfz18_2 := blk_frozen BK463.out 2) | ((with_reducible refine gate_callee (f := 74) rfl ?_); refine goesL_ (some 13) rfl rfl Try.func74 (by kernel_rfl) rfl #[.agg #[.int .i64 a0_0, .int .i64 a0_1, .slice A0_2 l0_2.length c0_2], .slice A1 l1.length c1, .int .i64 a0_1] rfl (by (try simp only [List.map_toArray, List.map_cons, List.map_nil]); first | done | rfl | (simp only [List.length_drop, List.length_take]; rfl)) ?_; (with_reducible refine (impl_targetCode.calls k a0_0 a0_1 _ _ l0_2 _ _ l1 a0_1 t464 _ ?side1 ?side2 ?side3 ?side4 A3.out).mono ?_); (case side1 => repeat (first | exact (Kd.C_below HR0_2.out HB.out) | (with_reducible refine Kd.C_alloc ?_ _) | (with_reducible refine Kd.C_drewN ?_ _) | (with_reducible refine Kd.C_drew ?_))); (case side2 => exact HC0_2.out); (case side3 => repeat (first | exact (Kd.C_below HR1.out HB.out) | (with_reducible refine Kd.C_alloc ?_ _) | (with_reducible refine Kd.C_drewN ?_ _) | (with_reducible refine Kd.C_drew ?_))); (case side4 => exact HC1.out); rintro e w19 ⟨rfl, hb⟩; refine ⟨_, rfl, ?_⟩; have n0_ := Aside0.mk (blk_below (g := gb463) (o := .cells #[.int .i64 a0_0, .int .i64 a0_1, .slice A0_2 l0_2.length c0_2] 26 (0, 0)) (by (with_reducible repeat (first | refine blk_drewN ?_ _ | refine blk_drew ?_ | refine blk_alloc ?_ _)); exact BK463.out) hb); have n1_ := Aside0.mk (below_step (by repeat (first | (with_reducible first | exact HB.out | apply below_alloc | apply pw_below_drewN | apply below_drew1 | refine below_set ?_ GE463.out) | exact HB.out)) hb); clear BK463; clear HB; have BK463 := n0_; have HB := n1_; clear n0_ n1_; (try clear hb); (try clear hb2); (try clear hk); (try clear hi)))
    go_ret2
    exact ⟨_, by first | rfl | (simp [errW_none, errW_some] <;> rfl) | (simp [*, errW_none, errW_some] <;> rfl), by first | exact Kd.R_nil _ _ _ _ _ | exact Kd.N_nil _ _ _ _ _ | exact Kd.V_nil _ _ _ _ _ | exact Kd.Q_nil _ _ _ _ _ | exact Kd.S_nil _ _ _ _ _, by repeat (first | (with_reducible first | exact HB.out | apply below_alloc | apply pw_below_drewN | apply below_drew1 | refine below_set ?_ GE463.out) | exact HB.out)⟩

end Go.Proofs.Ytjpbemomocccaaa.P

namespace Go.Proofs.Ytjpbemomocccaaa.P
open Go.RowKit Go.Proofs.YtjpbemomocccaaaW.PrintWords Go.Proofs.YtjpbemomocccaaaW.PrintLast Go.Proofs.YtjpbemomocccaaaW.PrintMore
attribute [local go_sem] max2_int min2_int max_two min_two max_three min_three max_four min_four
set_option linter.unusedVariables false
set_option linter.unusedSimpArgs false

/-! ### impl_copyRows: function 68 -/
def impl_copyRows.l0 : Nat → List (List Int) → List (List Int) → Int → Int → Option ((List (List Int)))
  | 0, _, _, _, _ => none
  | k + 1, x3, x7, x8, x9 => if x9 < x8 then (if 0 ≤ x9 then (if x9 < (x7.length : Int) then ((slices_Clone_int64_int64.f (rd_L1 x7 x9)).bind fun t171 => (if x3.length < 5864062014805 then (impl_copyRows.l0 k (x3 ++ [t171]) x7 x8 (wrap64 (x9 + 1))) else (none))) else (none)) else (none)) else (some x3)
def impl_copyRows.f (k : Nat) (l0 : List (List Int)) : Option ((List (List Int))) := impl_copyRows.l0 k (([] : List (List Int))) l0 (l0.length : Int) 0
set_option maxHeartbeats 8000000 in
set_option maxRecDepth 100000 in
theorem impl_copyRows.calls (k : Nat) (A0 : Option Addr) (c0 : Nat) (l0 : List (List Int)) (r : List (List Int)) (w : World) (hr0 : Kd.C (Kd.slice 2 (Kd.int .i64)) w A0 l0.length l0) (hc0 : l0.length ≤ c0) (h : impl_copyRows.f k l0 = some r) :
    Calls Try.prog 68 #[.slice A0 l0.length c0] w fun e w' => ∃ v0_ : Value, e = .returned (v0_) ∧ Kd.S (Kd.slice 2 (Kd.int .i64)) 35 w' w.heap.size (fun _ => True) v0_ r ∧ Below w.heap.size w w' := by
  have HR0 := Aside0.mk hr0
  have HC0 := Aside0.mk hc0
  clear hr0 hc0
  have HB := Aside0.mk (Below.refl w.heap.size w)
  have H : (impl_copyRows.l0 k (([] : List (List Int))) l0 (l0.length : Int) 0) = some r := h
  clear h
  obtain ⟨y167, hy167⟩ : ∃ y_ : List (List Int), y_ = (([] : List (List Int))) := ⟨_, rfl⟩
  replace H : (impl_copyRows.l0 k y167 l0 (l0.length : Int) 0) = some r := by first | (rw [hy167]; with_reducible exact H) | (have H2_ := (Option.bind_some _ _).symm.trans H; rw [hy167]; with_reducible exact H2_) | (have H2_ := (Option.bind_some _ _).symm.trans H; with_reducible exact H2_) | with_reducible exact H | (rw [hy167]; exact H) | exact H
  have Ny167 := Aside0.mk hy167
  clear hy167
  have H' := Aside0.mk H
  clear H
  go_enter Try.func68, Try.ntmps68
  go_wp2_with (first | ((with_reducible refine gate_dst (N := 6) rfl ?_); refine Kd.S_lit (Kd.slice 2 (Kd.int .i64)) _ 35 ?hg (N := 6) ?hd (xs := ([] : List (List Int))) (inner := []) (ok := fun _ => True) (okp := fun _ => True) ?hr ?hp (fun _ hk => hk) trivial (Below.refl _ _) (Nat.le_refl _) (by simp) ?_; (case hd => rfl); (case hg => rfl); (case hr => first | (go_simp; done) | (go_simp; rfl)); (case hp => exact (Reps.none _ _)); intro v168 w2 ho3 hb hg_ hnew_; clear hg_ hnew_; (first | rw [← Ny167.out] at ho3 | (simp only [Int.reduceToNat] at ho3; rw [← Ny167.out] at ho3)); have n0_ := Aside0.mk (Kd.S_lower ho3 (below_size (by repeat (first | (with_reducible first | exact HB.out | apply below_alloc | apply pw_below_drewN | apply below_drew1) | exact HB.out)))); have n1_ := Aside0.mk (below_step (by repeat (first | (with_reducible first | exact HB.out | apply below_alloc | apply pw_below_drewN | apply below_drew1) | exact HB.out)) hb); clear HB; have HO169 := n0_; have HB := n1_; clear n0_ n1_; clear hb ho3))
  go_loopg [3, 9] k (fun kq v3 v9 w' => ∃ (x3_1 : List (List Int)) (x9_1 : Int), v9 = .int .i64 x9_1 ∧ Aside0 (impl_copyRows.l0 kq x3_1 l0 (l0.length : Int) x9_1 = some r) ∧ Aside0 (kq ≤ k) ∧ Aside0 (Kd.S (Kd.slice 2 (Kd.int .i64)) 35 w' w.heap.size (fun _ => True) v3 x3_1) ∧ Aside0 (Below w.heap.size w w'))
  case atStart => exact ⟨(y167), (0), (by first | rfl | (simp; done) | (simp [*]; done)), H', ⟨Nat.le_refl _⟩, ⟨by (with_reducible repeat (first | apply Kd.S_alloc | apply Kd.S_drewN | apply Kd.S_drew)); exact HO169.out⟩, ⟨by repeat (first | (with_reducible first | exact HB.out | apply below_alloc | apply pw_below_drewN | apply below_drew1) | exact HB.out)⟩⟩
  case round =>
    clear H'
    try clear p2
    obtain ⟨x3_1, x9_1, rfl, HA, HK1, HO_3, HB⟩ := hrel
    cases gk with
    | zero => exact absurd HA.out (by simp [impl_copyRows.l0])
    | succ k1 =>
      have H := HA.out
      clear HA
      simp only [impl_copyRows.l0] at H
      by_cases c4 : x9_1 < (l0.length : Int)
      · rw [if_pos c4] at H
        have c4b0 : decide (x9_1 < (l0.length : Int)) = true := decide_eq_true c4
        clear c4
        by_cases c5 : 0 ≤ x9_1
        · rw [if_pos c5] at H
          have c5b0 : decide (0 ≤ x9_1) = true := decide_eq_true c5
          clear c5
          by_cases c6 : x9_1 < (l0.length : Int)
          · rw [if_pos c6] at H
            have c6b0 : decide (x9_1 < (l0.length : Int)) = true := decide_eq_true c6
            clear c6
            replace H := Option.bind_eq_some_iff.mp H
            obtain ⟨t171, A70, H⟩ := H
            replace H : (if x3_1.length < 5864062014805 then (impl_copyRows.l0 k1 (x3_1 ++ [t171]) l0 (l0.length : Int) (wrap64 (x9_1 + 1))) else (none)) = some r := H
            have A7 := Aside0.mk A70
            clear A70
            by_cases c8 : x3_1.length < 5864062014805
            · rw [if_pos c8] at H
              have LMc8 := Aside0.mk c8
              clear c8
              obtain ⟨y174, hy174⟩ : ∃ y_ : List (List Int), y_ = (x3_1 ++ [t171]) := ⟨_, rfl⟩
              replace H : (impl_copyRows.l0 k1 y174 l0 (l0.length : Int) (wrap64 (x9_1 + 1))) = some r := by first | (rw [hy174]; with_reducible exact H) | (have H2_ := (Option.bind_some _ _).symm.trans H; rw [hy174]; with_reducible exact H2_) | (have H2_ := (Option.bind_some _ _).symm.trans H; with_reducible exact H2_) | with_reducible exact H | (rw [hy174]; exact H) | exact H
              have Ny174 := Aside0.mk hy174
              clear hy174
              have H' := Aside0.mk H
              clear H
              have p170 : 0 ≤ (x9_1 : Int) := of_decide_eq_true (by first | (with_reducible assumption) | assumption)
              have q170 : x9_1 < (l0.length : Int) := of_decide_eq_true (by first | (with_reducible assumption) | assumption)
              obtain ⟨ad170, A170_0, c170_0, e170, hx170_0, hl170_0, hi170_0⟩ := at_L1 HR0.out x9_1 p170 q170
              cases e170
              replace hx170_0 := (HB.out.cell (World.block_lt_of_cell? w _ hx170_0)).trans hx170_0
              have HR170_0 := Aside0.mk hi170_0
              have HC170_0 := Aside0.mk hl170_0
              clear hi170_0 hl170_0
              replace p170 := eq_true p170
              replace q170 := eq_true q170
              go_wp2_with (first | ((with_reducible refine gate_callee (f := 64) rfl ?_); refine goesL_ (some 15) rfl rfl Try.func64 (by kernel_rfl) rfl #[.slice A170_0 (rd_L1 l0 x9_1).length c170_0] rfl (by (try simp only [List.map_toArray, List.map_cons, List.map_nil]); first | done | rfl | (simp only [List.length_drop, List.length_take]; rfl)) ?_; (with_reducible refine (slices_Clone_int64_int64.calls _ _ (rd_L1 l0 x9_1) t171 _ ?side1 ?side2 A7.out).mono ?_); (case side1 => repeat (first | exact (Kd.C_below HR170_0.out HB.out) | (with_reducible refine Kd.C_alloc ?_ _) | (with_reducible refine Kd.C_drewN ?_ _) | (with_reducible refine Kd.C_drew ?_))); (case side2 => exact HC170_0.out); rintro e w9 ⟨v172, rfl, ho0, hb⟩; refine ⟨_, rfl, ?_⟩; have n0_ := Aside0.mk (Kd.S_elder' (by (with_reducible repeat (first | apply Kd.S_alloc | apply Kd.S_drewN | apply Kd.S_drew)); exact HO_3.out) (Kd.R_base ho0) hb); have n1_ := Aside0.mk (Kd.R_lower ho0 (below_size (by repeat (first | (with_reducible first | exact HB.out | apply below_alloc | apply pw_below_drewN | apply below_drew1) | exact HB.out)))); have n2_ := Aside0.mk (below_step (by repeat (first | (with_reducible first | exact HB.out | apply below_alloc | apply pw_below_drewN | apply below_drew1) | exact HB.out)) hb); clear HO_3; clear HB; have HO_3 := n0_; have HO173 := n1_; have HB := n2_; clear n0_ n1_ n2_; (try clear hb); (try clear hb2); (try clear hk); (try clear hi); (try clear ho0); obtain ⟨Ao11, co11, eo11⟩ := Kd.R_slice HO173.out; subst eo11) | ((with_reducible refine gate_builtin (b := .append) (xs := #[.tmp 13, .tmp 16]) rfl ?_); at_builtin; refine Kd.S_append (Kd.slice 2 (Kd.int .i64)) (w0 := w) w.heap.size rfl (.tmp 13) (.tmp 16) 22 35 (.slice none 0 0) 24 rfl Try.underlying22 info35 rfl (by decide) (by omega) u3 x3_1 t171 [.slice Ao11 t171.length co11] (fun _ => True) (fun k_ => some k_ = (.slice Ao11 t171.length co11 : Value).ownBlock) rfl rfl ?aP (fun k_ hk_ => ((Kd.R_mono (ok' := fun k_ => ((fun _ => True)) k_ ∧ some k_ ≠ (u3 : Value).ownBlock) (Kd.R_apart' (HO173.out) (Kd.S_typed HO_3.out) (by decide)) (fun k_ hk => ⟨trivial, hk.2⟩))).1 k_ hk_.symm) ?aF ?aO ?aB ?aS ?aL ?_; (case aP => exact Kd.M_row (Kd.R_mono (Kd.R_tight rfl (Kd.R_mono (ok' := fun k_ => ((fun _ => True)) k_ ∧ some k_ ≠ (u3 : Value).ownBlock) (Kd.R_apart' (HO173.out) (Kd.S_typed HO_3.out) (by decide)) (fun k_ hk => ⟨trivial, hk.2⟩))) (fun _ h_ => h_))); (case aB => exact (by repeat (first | (with_reducible first | exact HB.out | apply below_alloc | apply pw_below_drewN | apply below_drew1) | exact HB.out))); (case aF => exact (fun _ _ => trivial)); (case aO => exact (by (with_reducible repeat (first | apply Kd.S_alloc | apply Kd.S_drewN | apply Kd.S_drew)); exact Kd.S_mono HO_3.out (fun k_ hk => ⟨trivial, fun e_ => hk.2 e_⟩))); (case aS => exact (below_size (by repeat (first | (with_reducible first | exact HB.out | apply below_alloc | apply pw_below_drewN | apply below_drew1) | exact HB.out)))); (case aL => have := LMc8.out; omega); intro v175 w10 ho hb hg hat; rw [← Ny174.out] at ho; have n0_ := Aside0.mk (hb); have n1_ := Aside0.mk (ho); clear HB; clear HO_3; clear HO173; have HB := n0_; have HO176 := n1_; clear n0_ n1_; clear ho hb hg hat))
              go_roundg k1
              case measure => have := HK1.out; omega
              case rel => exact ⟨(y174), (wrap64 (x9_1 + 1)), (by first | rfl | (simp; done) | (simp [*]; done)), H', ⟨by have := HK1.out; omega⟩, ⟨by (with_reducible repeat (first | apply Kd.S_alloc | apply Kd.S_drewN | apply Kd.S_drew)); exact HO176.out⟩, ⟨by repeat (first | (with_reducible first | exact HB.out | apply below_alloc | apply pw_below_drewN | apply below_drew1) | exact HB.out)⟩⟩
            · rw [if_neg c8] at H
              exact absurd H (by simp)
          · rw [if_neg c6] at H
            exact absurd H (by simp)
        · rw [if_neg c5] at H
          exact absurd H (by simp)
      · rw [if_neg c4] at H
        have c4b0 : decide (x9_1 < (l0.length : Int)) = false := decide_eq_false c4
        clear c4
        obtain rfl := Option.some.inj H
        go_wp2
        go_ret
        exact ⟨_, by first | rfl | (simp [errW_none, errW_some] <;> rfl) | (simp [*, errW_none, errW_some] <;> rfl), by (with_reducible repeat (first | apply Kd.S_alloc | apply Kd.S_drewN | apply Kd.S_drew)); exact HO_3.out, by repeat (first | (with_reducible first | exact HB.out | apply below_alloc | apply pw_below_drewN | apply below_drew1) | exact HB.out)⟩

end Go.Proofs.Ytjpbemomocccaaa.P

namespace Go.Proofs.Ytjpbemomocccaaa.P
open Go.RowKit Go.Proofs.YtjpbemomocccaaaW.PrintWords Go.Proofs.YtjpbemomocccaaaW.PrintLast Go.Proofs.YtjpbemomocccaaaW.PrintMore
attribute [local go_sem] max2_int min2_int max_two min_two max_three min_three max_four min_four
set_option linter.unusedVariables false
set_option linter.unusedSimpArgs false

/-! ### impl_Matrix_echelon: function 51 (by hand) -/
def impl_Matrix_echelon.l2 : Nat → Int → Int → Int → List (List Int) → Int → Option (List (List Int))
  | 0, _, _, _, _, _ => none
  | k + 1, p, c, n, rows, i => if i < (rows.length : Int) then (if 0 ≤ i then (if i = n then impl_Matrix_echelon.l2 k p c n rows (wrap64 (i + 1)) else (if 0 ≤ n then (if n < (rows.length : Int) then (if 0 ≤ c then (if c < ((rd_L1 rows i).length : Int) then ((impl_takeOff.f k p (rd_L1 rows i) (rd_L1 rows n) (rd (rd_L1 rows i) c)).bind fun r => impl_Matrix_echelon.l2 k p c n (rows.set i.toNat r) (wrap64 (i + 1))) else none) else none) else none) else none)) else none) else some rows
def impl_Matrix_echelon.l0 : Nat → Int → Int → List (List Int) → List Int → Int → Option (List (List Int) × List Int)
  | 0, _, _, _, _, _ => none
  | k + 1, p, cols, rows, piv, c => if c < cols then ((findB k rows c (piv.length : Int)).bind fun a => if a = (rows.length : Int) then impl_Matrix_echelon.l0 k p cols rows piv (wrap64 (c + 1)) else (if 0 ≤ a then (if a < (rows.length : Int) then (if (piv.length : Int) < (rows.length : Int) then (if 0 ≤ c then (if c < ((rd_L1 (swapB rows piv.length a.toNat) (piv.length : Int)).length : Int) then ((impl_inverse.f k p (rd (rd_L1 (swapB rows piv.length a.toNat) (piv.length : Int)) c)).bind fun inv => ((impl_scaled.f k p (rd_L1 (swapB rows piv.length a.toNat) (piv.length : Int)) inv).bind fun r => ((impl_Matrix_echelon.l2 k p c (piv.length : Int) ((swapB rows piv.length a.toNat).set piv.length r) 0).bind fun rows2 => if piv.length < 17592186044416 then impl_Matrix_echelon.l0 k p cols rows2 (piv ++ [c]) (wrap64 (c + 1)) else none))) else none) else none) else none) else none) else none)) else some (rows, piv)
def impl_Matrix_echelon.f (k : Nat) (a0_0 : Int) (a0_1 : Int) (l0_2 : List (List Int)) : Option (Int × Int × (List (List Int)) × List Int) := (impl_copyRows.f k l0_2).bind fun rows => ((impl_Matrix_echelon.l0 k a0_0 a0_1 rows [] 0).bind fun t => if t.2.length ≤ t.1.length then some (a0_0, a0_1, t.1.take t.2.length, t.2) else none)
set_option maxHeartbeats 8000000 in
set_option maxRecDepth 100000 in
theorem impl_Matrix_echelon.calls (k : Nat) (a0_0 : Int) (a0_1 : Int) (A0_2 : Option Addr) (c0_2 : Nat) (l0_2 : List (List Int)) (r1 : Int) (r2 : Int) (r3 : List (List Int)) (r4 : List Int) (w : World) (hr0_2 : Kd.C (Kd.slice 2 (Kd.int .i64)) w A0_2 l0_2.length l0_2) (hc0_2 : l0_2.length ≤ c0_2) (h : impl_Matrix_echelon.f k a0_0 a0_1 l0_2 = some (r1, r2, r3, r4)) :
    Calls Try.prog 51 #[.agg #[.int .i64 a0_0, .int .i64 a0_1, .slice A0_2 l0_2.length c0_2]] w fun e w' => ∃ v2_ v3_ : Value, e = .returned (.tuple #[.agg #[.int .i64 r1, .int .i64 r2, v2_], v3_]) ∧ Kd.S (Kd.slice 2 (Kd.int .i64)) 35 w' w.heap.size (fun _ => True) v2_ r3 ∧ Kd.R (Kd.int .i64) 3 w' w.heap.size (fun _ => True) v3_ r4 ∧ Below w.heap.size w w' := by
  have hum := Try.underlying26
  have HR := Aside0.mk hr0_2
  have HC := Aside0.mk hc0_2
  clear hr0_2 hc0_2
  unfold impl_Matrix_echelon.f at h
  replace h := Option.bind_eq_some_iff.mp h
  obtain ⟨rows0, At1, h⟩ := h
  replace h := Option.bind_eq_some_iff.mp h
  obtain ⟨⟨rs, ps⟩, At2, h⟩ := h
  have A1_ := Aside0.mk At1
  have A2_ := Aside0.mk At2
  clear At1 At2
  by_cases cl : ps.length ≤ rs.length
  case neg => rw [if_neg cl] at h; exact absurd h (by simp)
  rw [if_pos cl] at h
  obtain ⟨rfl, rfl, rfl, rfl⟩ := (by simpa using h : a0_0 = r1 ∧ a0_1 = r2 ∧ rs.take ps.length = r3 ∧ ps = r4)
  have CL := Aside0.mk cl
  clear h cl
  go_enter Try.func51, Try.ntmps51
  go_wp2_with (first | (go_at_call 68; (with_reducible refine (impl_copyRows.calls k _ _ l0_2 rows0 _ ?side1 ?side2 A1_.out).mono ?_); (case side1 => repeat (first | exact HR.out | (with_reducible refine Kd.C_alloc ?_ _) | (with_reducible refine Kd.C_drewN ?_ _) | (with_reducible refine Kd.C_drew ?_))); (case side2 => exact HC.out); rintro e w1 ⟨v, rfl, ho, hb⟩; obtain ⟨vs0, hmx⟩ := Mx.of_S (lo := w.heap.size + 2) (hi := w1.heap.size) (Kd.S_mono (Kd.S_bound ho) (fun k_ hk_ => ⟨by have h_ := hk_.2.1; (try simp at h_); omega, hk_.2.2.1⟩)); have n1_ := blk_below (g := w.heap.size) (o := .cells #[.int .i64 a0_0, .int .i64 a0_1, .slice A0_2 l0_2.length c0_2] 26 (0, 0)) (by repeat (first | exact blk_new_at (by simp) | (with_reducible refine blk_drewN ?_ _) | (with_reducible refine blk_drew ?_) | (with_reducible refine blk_alloc ?_ _))) hb; have n2_ := blk_below (g := w.heap.size + 1) (o := .cells #[(.int .i64 0 : Value), (.int .i64 0 : Value), (.slice none 0 0 : Value)] 26 (0, 0)) (by repeat (first | exact blk_new_at (by simp) | (with_reducible refine blk_drewN ?_ _) | (with_reducible refine blk_drew ?_) | (with_reducible refine blk_alloc ?_ _))) hb; have n3_ : Below w.heap.size w w1 := below_step (by repeat (first | exact Below.refl _ _ | apply below_alloc | apply pw_below_drewN | apply below_drew1)) hb; have E0 : Aside0 (Mw w w1 (w.heap.size + 2) w1.heap.size w1.heap.size ([(w.heap.size, .cells #[.int .i64 a0_0, .int .i64 a0_1, .slice A0_2 l0_2.length c0_2] 26 (0, 0)), (w.heap.size + 1, .cells #[(.int .i64 0 : Value), (.int .i64 0 : Value), (.slice none 0 0 : Value)] 26 (0, 0))]) v vs0 rows0) := ⟨⟨hmx.lower (by simp; omega), (fun b hm => by rcases List.mem_cons.1 hm with rfl | hm; exact ⟨n1_, .inl (by omega), blk_lt n1_⟩; rcases List.mem_cons.1 hm with rfl | hm; exact ⟨n2_, .inl (by omega), blk_lt n2_⟩; cases hm), n3_, (by omega), Nat.le_refl _, Nat.le_refl _⟩⟩; clear ho hb hmx n1_ n2_ n3_) | ((with_reducible refine gate_dst (N := 14) rfl ?_); refine Kd.R_lit (Kd.int .i64) _ 3 ?hg (N := 14) ?hd (xs := ([] : List Int)) (inner := []) (ok := fun k_ => w1.heap.size ≤ k_) (okp := fun k_ => w1.heap.size ≤ k_) ?hr ?hp (fun _ hk => hk) (Nat.le_refl _) (Below.refl _ _) (Nat.le_refl _) (by simp) ?_; (case hd => rfl); (case hg => rfl); (case hr => first | (go_simp; done) | (go_simp; rfl)); (case hp => exact (Reps.none _ _)); intro vp w2 ho3 hb hg_ hnew_; clear hg_ hnew_; have P0 := Aside0.mk (Kd.R_lower ho3 (below_size E0.out.be)); have E := Aside0.mk (E0.out.below hb); clear E0 ho3 hb; have hm1_ : w2.cell? ⟨w.heap.size, 1, none⟩ = some (.int .i64 a0_1) := (blk_cell (E.out.box (b := w.heap.size) (o := .cells #[.int .i64 a0_0, .int .i64 a0_1, .slice A0_2 l0_2.length c0_2] 26 (0, 0)) (by simp)) 1).trans rfl))
  obtain ⟨A1, c1, e1, hc1⟩ := E.out.mx.slice
  subst e1
  obtain ⟨n0, hn0⟩ : ∃ n, n = rows0.length := ⟨_, rfl⟩
  rw [← hn0] at E ⊢
  obtain ⟨hi, hhi⟩ : ∃ m, m = w1.heap.size := ⟨_, rfl⟩
  simp only [← hhi] at E P0
  clear hn0 hhi hc1
  go_loopg [5, 17] k (fun kq v5 v17 w' => ∃ (c : Int) (rows : List (List Int)) (piv : List Int) (vs : List Value), v17 = .int .i64 c ∧ Aside0 (impl_Matrix_echelon.l0 kq a0_0 a0_1 rows piv c = some (rs, ps)) ∧ Aside0 (kq ≤ k) ∧ Aside0 (Mw w w' (w.heap.size + 2) hi hi ([(w.heap.size, .cells #[.int .i64 a0_0, .int .i64 a0_1, .slice A0_2 l0_2.length c0_2] 26 (0, 0)), (w.heap.size + 1, .cells #[(.int .i64 0 : Value), (.int .i64 0 : Value), (.slice none 0 0 : Value)] 26 (0, 0))]) (.slice A1 n0 c1) vs rows) ∧ Aside0 (Kd.R (Kd.int .i64) 3 w' w.heap.size (fun k_ => hi ≤ k_) v5 piv))
  case atStart => exact ⟨0, rows0, [], vs0, rfl, A2_, ⟨Nat.le_refl _⟩, E, P0⟩
  case round =>
    clear E P0 A2_ hm1_
    obtain ⟨c, rows, piv, vs, rfl, HA, HK1, E, P⟩ := hrel
    cases gk with
    | zero => exact absurd HA.out (by simp [impl_Matrix_echelon.l0])
    | succ k1 =>
      have H := HA.out
      clear HA
      simp only [impl_Matrix_echelon.l0] at H
      by_cases c2 : c < a0_1
      · rw [if_pos c2] at H
        have c2b : decide (c < a0_1) = true := decide_eq_true c2
        clear c2
        replace H := Option.bind_eq_some_iff.mp H
        obtain ⟨at_, At1, H⟩ := H
        have B1 := Aside0.mk At1
        have H1 := Aside0.mk H
        clear At1 H
        obtain ⟨A5, c5, e5⟩ := Kd.R_slice P.out
        subst e5
        obtain ⟨wo, rfl⟩ : ∃ wo : World, wo = wr := ⟨_, rfl⟩
        go_wp2
        go_loopg [8] k1 (fun kq v8 w' => ∃ (a : Int), v8 = .int .i64 a ∧ Aside0 (findB kq rows c a = some at_) ∧ Aside0 (kq ≤ k1) ∧ Aside0 (Mw w w' (w.heap.size + 2) hi hi ([(w.heap.size, .cells #[.int .i64 a0_0, .int .i64 a0_1, .slice A0_2 l0_2.length c0_2] 26 (0, 0)), (w.heap.size + 1, .cells #[(.int .i64 0 : Value), (.int .i64 0 : Value), (.slice none 0 0 : Value)] 26 (0, 0))]) (.slice A1 n0 c1) vs rows) ∧ Aside0 (Kd.R (Kd.int .i64) 3 w' w.heap.size (fun k_ => hi ≤ k_) (.slice A5 piv.length c5) piv))
        case atStart => exact ⟨(piv.length : Int), rfl, B1, ⟨Nat.le_refl _⟩, E, P⟩
        case round =>
          clear B1 E P
          obtain ⟨a, rfl, HA, HK2, E, P⟩ := hrel
          have hcnt := Aside0.mk E.out.mx.count.1
          cases gk with
          | zero => exact absurd HA.out (by simp [findB])
          | succ k2 =>
            have H := HA.out
            clear HA
            simp only [findB] at H
            by_cases c3 : a < (rows.length : Int)
            · rw [if_pos c3] at H
              by_cases c4 : 0 ≤ a
              case neg => rw [if_neg c4] at H; exact absurd H (by simp)
              rw [if_pos c4] at H
              by_cases c5_ : 0 ≤ c
              case neg => rw [if_neg c5_] at H; exact absurd H (by simp)
              rw [if_pos c5_] at H
              by_cases c6 : c < ((rd_L1 rows a).length : Int)
              case neg => rw [if_neg c6] at H; exact absurd H (by simp)
              rw [if_pos c6] at H
              obtain ⟨u, hu, hr⟩ := E.out.mx.rd_ a c4 c3
              obtain ⟨b, cb, e, b1, b2, hx⟩ := E.out.mx.get hu hr c c5_ c6
              subst e
              obtain ⟨g, cg, e, g1, g2, g3, g4⟩ := E.out.mx.form (by omega)
              injection e with e1 e2 e3
              subst e1
              have hy := (E.out.mx.cell hu).1
              have a1b : decide (a < (n0 : Int)) = true := decide_eq_true (by omega)
              have a1c := eq_true (show a < (n0 : Int) by omega)
              have a2b : decide (0 ≤ a) = true := decide_eq_true c4
              have a3b : decide (0 ≤ c) = true := decide_eq_true c5_
              have a4b : decide (c < ((rd_L1 rows a).length : Int)) = true := decide_eq_true c6
              have G := Aside0.mk (And.intro g1 (And.intro g2 g4))
              have KK := Aside0.mk (And.intro c3 (And.intro c4 (And.intro c5_ c6)))
              have HUR := Aside0.mk (And.intro hu hr)
              clear g1 g2 g3 g4 e2 e3 b1 b2 hu hr
              replace c3 := eq_true c3
              replace c4 := eq_true c4
              replace c5_ := eq_true c5_
              replace c6 := eq_true c6
              by_cases c7 : rd (rd_L1 rows a) c = 0
              · rw [if_pos c7] at H
                have a5b : (rd (rd_L1 rows a) c == 0) = true := by rw [c7]; rfl
                replace c7 := Aside0.mk c7
                have H' := Aside0.mk H
                clear H
                go_wp2
                go_roundg k2
                case measure => have := HK1.out; have := HK2.out; omega
                case rel => exact ⟨_, rfl, H', ⟨by have := HK2.out; omega⟩, E, P⟩
              · rw [if_neg c7] at H
                have a5b : (rd (rd_L1 rows a) c == 0) = false := beq_eq_false_iff_ne.mpr c7
                replace c7 := Aside0.mk c7
                obtain rfl := Option.some.inj H
                clear H
                have H := H1.out
                clear H1
                have ca : ¬ a = (rows.length : Int) := by have := KK.out.1; omega
                rw [if_neg ca, if_pos KK.out.2.1, if_pos KK.out.1] at H
                have a6b : (a == (n0 : Int)) = false := beq_eq_false_iff_ne.mpr (by have := hcnt.out; omega)
                clear ca
                by_cases c8 : (piv.length : Int) < (rows.length : Int)
                case neg => rw [if_neg c8] at H; exact absurd H (by simp)
                rw [if_pos c8] at H
                rw [if_pos KK.out.2.2.1] at H
                by_cases c9 : c < ((rd_L1 (swapB rows piv.length a.toNat) (piv.length : Int)).length : Int)
                case neg => rw [if_neg c9] at H; exact absurd H (by simp)
                rw [if_pos c9] at H
                replace H := Option.bind_eq_some_iff.mp H
                obtain ⟨inv, At, H⟩ := H
                have B3 := Aside0.mk At
                clear At
                replace H := Option.bind_eq_some_iff.mp H
                obtain ⟨r, At, H⟩ := H
                have B4 := Aside0.mk At
                clear At
                replace H := Option.bind_eq_some_iff.mp H
                obtain ⟨rows2, At, H⟩ := H
                have B5 := Aside0.mk At
                clear At
                by_cases c10 : piv.length < 17592186044416
                case neg => rw [if_neg c10] at H; exact absurd H (by simp)
                rw [if_pos c10] at H
                have H' := Aside0.mk H
                clear H
                have C8 := Aside0.mk c8
                have C9 := Aside0.mk c9
                have C10 := Aside0.mk c10
                have a7b : decide ((piv.length : Int) < (n0 : Int)) = true := decide_eq_true (by have := hcnt.out; omega)
                have a7c := eq_true (show (piv.length : Int) < (n0 : Int) by have := hcnt.out; omega)
                have a7d := eq_true (show piv.length < n0 by have := hcnt.out; omega)
                have a7e := eq_true (show (0 : Int) ≤ (piv.length : Int) by omega)
                clear c8 c9 c10
                go_wp2
                obtain ⟨un, hun, hrn⟩ := E.out.mx.rd_ (piv.length : Int) (by omega) C8.out
                simp only [Int.toNat_natCast] at hun hrn
                obtain ⟨An, cn, en, _, _⟩ := E.out.mx.rslice hun hrn
                subst en
                have HN := Aside0.mk (And.intro hun hrn)
                clear hun hrn hx hy
                have E1 := Aside0.mk E.out.drew
                have P1 := Aside0.mk (Kd.R_drew P.out)
                clear E P
                refine start_ (n := 16) (S := fun w' => w'.cell? ⟨g, a.toNat, none⟩ = some (.slice (some ⟨b, 0, none⟩) (rd_L1 rows a).length cb) ∧ w'.cell? ⟨g, piv.length, none⟩ = some (.slice An (rd_L1 rows (piv.length : Int)).length cn)) (ds := [13, 15]) #[false, false, false, false, false, false, false, false, false, false, false, false, false, false, false, false] (by kernel_rfl) rfl rfl ⟨(E1.out.mx.cell HUR.out.1).1, (E1.out.mx.cell HN.out.1).1⟩ (fun hHeld => ?_)
                generalize wr.drew = w5 at E1 P1 hHeld ⊢
                have hs1 := E1.out.mx.cell HN.out.1
                obtain ⟨hs1, hs2⟩ := hs1
                obtain ⟨vb, hs3⟩ := cell?_setCell_some (w := w5) (p := ⟨g, piv.length, none⟩) (x := (.slice (some ⟨b, 0, none⟩) (rd_L1 rows a).length cb)) (q := ⟨g, a.toNat, none⟩) (E1.out.mx.cell HUR.out.1).1
                have hs4 : (w5.setCell ⟨g, piv.length, none⟩ (.slice (some ⟨b, 0, none⟩) (rd_L1 rows a).length cb)).frozen? ⟨g, a.toNat, none⟩ = false := (frozen_set _ _ _ _).trans (E1.out.mx.cell HUR.out.1).2
                refine pure_ (i := 0) (N := some 43) (v := ?_) (a' := ?_) #[true, false, false, false, false, false, false, false, false, false, false, false, false, false, false, false] rfl rfl (by kernel_rfl) (fun _ _ _ h => h) (Or.inl ⟨by rfl, ?_⟩) ?_ ?_
                rotate_left
                · intro w'
                  first | (go_simp; with_reducible rfl) | (simp [go_sem, Instr.field, asAgg] <;> with_reducible rfl)
                rotate_left
                · simp only [Act.put, List.setIfInBounds_toArray, List.set_cons_zero, List.set_cons_succ, i64_w, i32_w]
                  rfl
                refine pure_ (i := 1) (N := some 44) (v := ?_) (a' := ?_) #[true, true, false, false, false, false, false, false, false, false, false, false, false, false, false, false] rfl rfl (by kernel_rfl) (fun _ _ _ h => h) (Or.inl ⟨by rfl, ?_⟩) ?_ ?_
                rotate_left
                · intro w'
                  first | (go_simp; with_reducible rfl) | (simp [go_sem, Instr.field, asAgg] <;> with_reducible rfl)
                rotate_left
                · simp only [Act.put, List.setIfInBounds_toArray, List.set_cons_zero, List.set_cons_succ, i64_w, i32_w]
                  rfl
                refine pure_ (i := 2) (N := some 45) (v := ?_) (a' := ?_) #[true, true, true, false, false, false, false, false, false, false, false, false, false, false, false, false] rfl rfl (by kernel_rfl) (fun _ _ _ h => h) (Or.inl ⟨by rfl, ?_⟩) ?_ ?_
                rotate_left
                · intro w'
                  first | (go_simp; with_reducible rfl) | (simp [go_sem, Instr.field, asAgg] <;> with_reducible rfl)
                rotate_left
                · simp only [Act.put, List.setIfInBounds_toArray, List.set_cons_zero, List.set_cons_succ, i64_w, i32_w]
                  rfl
                refine pure_ (i := 3) (N := some 46) (v := ?_) (a' := ?_) #[true, true, true, true, false, false, false, false, false, false, false, false, false, false, false, false] rfl rfl (by kernel_rfl) (fun _ _ _ h => h) (Or.inl ⟨by rfl, ?_⟩) ?_ ?_
                rotate_left
                · intro w'
                  first | (go_simp; with_reducible rfl) | (simp [go_sem, Instr.field, asAgg] <;> with_reducible rfl)
                rotate_left
                · simp only [Act.put, List.setIfInBounds_toArray, List.set_cons_zero, List.set_cons_succ, i64_w, i32_w]
                  rfl
                refine pure_ (i := 4) (N := some 47) (v := ?_) (a' := ?_) #[true, true, true, true, true, false, false, false, false, false, false, false, false, false, false, false] rfl rfl (by kernel_rfl) (fun _ _ _ h => h) (Or.inl ⟨by rfl, ?_⟩) ?_ ?_
                rotate_left
                · intro w'
                  first | (go_simp; with_reducible rfl) | (simp [go_sem, Instr.field, asAgg] <;> with_reducible rfl)
                rotate_left
                · simp only [Act.put, List.setIfInBounds_toArray, List.set_cons_zero, List.set_cons_succ, i64_w, i32_w]
                  rfl
                refine pure_ (i := 5) (N := some 48) (v := ?_) (a' := ?_) #[true, true, true, true, true, true, false, false, false, false, false, false, false, false, false, false] rfl rfl (by kernel_rfl) (fun _ _ _ h => h) (Or.inl ⟨by rfl, ?_⟩) ?_ ?_
                rotate_left
                · intro w'
                  first | (go_simp; with_reducible rfl) | (simp [go_sem, Instr.field, asAgg] <;> with_reducible rfl)
                rotate_left
                · simp only [Act.put, List.setIfInBounds_toArray, List.set_cons_zero, List.set_cons_succ, i64_w, i32_w]
                  rfl
                refine pure_ (i := 6) (N := some 49) (v := ?_) (a' := ?_) #[true, true, true, true, true, true, true, false, false, false, false, false, false, false, false, false] rfl rfl (by kernel_rfl) (fun _ _ _ h => h) (Or.inl ⟨by rfl, ?_⟩) ?_ ?_
                rotate_left
                · intro w'
                  first | (go_simp; with_reducible rfl) | (simp [go_sem, Instr.field, asAgg] <;> with_reducible rfl)
                rotate_left
                · simp only [Act.put, List.setIfInBounds_toArray, List.set_cons_zero, List.set_cons_succ, i64_w, i32_w]
                  rfl
                refine pure_ (i := 8) (N := some 51) (v := ?_) (a' := ?_) #[true, true, true, true, true, true, true, false, true, false, false, false, false, false, false, false] rfl rfl (by kernel_rfl) (fun _ _ _ h => h) (Or.inl ⟨by rfl, ?_⟩) ?_ ?_
                rotate_left
                · intro w'
                  first | (go_simp; with_reducible rfl) | (simp [go_sem, Instr.field, asAgg] <;> with_reducible rfl)
                rotate_left
                · simp only [Act.put, List.setIfInBounds_toArray, List.set_cons_zero, List.set_cons_succ, i64_w, i32_w]
                  rfl
                refine pure_ (i := 9) (N := some 52) (v := ?_) (a' := ?_) #[true, true, true, true, true, true, true, false, true, true, false, false, false, false, false, false] rfl rfl (by kernel_rfl) (fun _ _ _ h => h) (Or.inl ⟨by rfl, ?_⟩) ?_ ?_
                rotate_left
                · intro w'
                  first | (go_simp; with_reducible rfl) | (simp [go_sem, Instr.field, asAgg] <;> with_reducible rfl)
                rotate_left
                · simp only [Act.put, List.setIfInBounds_toArray, List.set_cons_zero, List.set_cons_succ, i64_w, i32_w]
                  rfl
                refine pure_ (i := 10) (N := some 53) (v := ?_) (a' := ?_) #[true, true, true, true, true, true, true, false, true, true, true, false, false, false, false, false] rfl rfl (by kernel_rfl) (fun _ _ _ h => h) (Or.inl ⟨by rfl, ?_⟩) ?_ ?_
                rotate_left
                · intro w'
                  first | (go_simp; with_reducible rfl) | (simp [go_sem, Instr.field, asAgg] <;> with_reducible rfl)
                rotate_left
                · simp only [Act.put, List.setIfInBounds_toArray, List.set_cons_zero, List.set_cons_succ, i64_w, i32_w]
                  rfl
                refine take_ (i := 7) (N := some 50) (v := ?_) (a' := ?_) #[true, true, true, true, true, true, true, true, true, true, true, false, false, false, false, false] rfl rfl (by kernel_rfl) (fun _ _ _ h => h) (Or.inl ⟨by rfl, ?_⟩) hHeld ?_ ?_
                rotate_left
                · rintro w' ⟨s0, s1⟩
                  go_simp
                  with_reducible rfl
                rotate_left
                · simp only [Act.put, List.setIfInBounds_toArray, List.set_cons_zero, List.set_cons_succ, i64_w, i32_w]
                  rfl
                refine take_ (i := 11) (N := some 54) (v := ?_) (a' := ?_) #[true, true, true, true, true, true, true, true, true, true, true, true, false, false, false, false] rfl rfl (by kernel_rfl) (fun _ _ _ h => h) (Or.inl ⟨by rfl, ?_⟩) hHeld ?_ ?_
                rotate_left
                · rintro w' ⟨s0, s1⟩
                  go_simp
                  with_reducible rfl
                rotate_left
                · simp only [Act.put, List.setIfInBounds_toArray, List.set_cons_zero, List.set_cons_succ, i64_w, i32_w]
                  rfl
                refine pure_ (i := 12) (N := some 55) (v := ?_) (a' := ?_) #[true, true, true, true, true, true, true, true, true, true, true, true, true, false, false, false] rfl rfl (by kernel_rfl) (fun _ _ _ h => h) (Or.inl ⟨by rfl, ?_⟩) ?_ ?_
                rotate_left
                · intro w'
                  first | (go_simp; with_reducible rfl) | (simp [go_sem, Instr.field, asAgg] <;> with_reducible rfl)
                rotate_left
                · simp only [Act.put, List.setIfInBounds_toArray, List.set_cons_zero, List.set_cons_succ, i64_w, i32_w]
                  rfl
                refine last_ (i := 13) (N := none) #[true, true, true, true, true, true, true, true, true, true, true, true, true, true, false, false] rfl rfl (by kernel_rfl) (by decide) (fun K hK => ?_)
                refine skip_ (w1 := ?_) (by rfl) rfl ?_ ?_
                rotate_left
                · go_simp
                  rfl
                refine hK.out _ _ ?_
                clear hK K
                refine pure_ (i := 14) (N := some 56) (v := ?_) (a' := ?_) #[true, true, true, true, true, true, true, true, true, true, true, true, true, true, true, false] rfl rfl (by kernel_rfl) (fun _ _ _ h => h) (Or.inl ⟨by rfl, ?_⟩) ?_ ?_
                rotate_left
                · intro w'
                  first | (go_simp; with_reducible rfl) | (simp [go_sem, Instr.field, asAgg] <;> with_reducible rfl)
                rotate_left
                · simp only [Act.put, List.setIfInBounds_toArray, List.set_cons_zero, List.set_cons_succ, i64_w, i32_w]
                  rfl
                refine last_ (i := 15) (N := none) #[true, true, true, true, true, true, true, true, true, true, true, true, true, true, true, true] rfl rfl (by kernel_rfl) (by decide) (fun K hK => ?_)
                refine skip_ (w1 := ?_) (by rfl) rfl ?_ ?_
                rotate_left
                · go_simp
                  rfl
                refine hK.out _ _ ?_
                clear hK K
                refine done_ (by kernel_rfl) ?_
                clear hs1 hs2 hs3 hs4 hHeld
                have E2 := Aside0.mk (E1.out.swap HN.out.1 HUR.out.1 HN.out.2 HUR.out.2)
                have es : (rows.set piv.length (rd_L1 rows a)).set a.toNat (rd_L1 rows (piv.length : Int)) = (swapB rows piv.length a.toNat) := by unfold swapB; rw [Int.toNat_of_nonneg KK.out.2.1]
                rw [es] at E2
                have P2 := Aside0.mk (R_aside2 (g := g) (i := piv.length) (j := a.toNat) (a := (.slice (some ⟨b, 0, none⟩) (rd_L1 rows a).length cb)) (b := (.slice An (rd_L1 rows (piv.length : Int)).length cn)) P1.out G.out.2.1)
                generalize (vs.set piv.length (.slice (some ⟨b, 0, none⟩) (rd_L1 rows a).length cb)).set a.toNat (.slice An (rd_L1 rows (piv.length : Int)).length cn) = vs2 at E2
                generalize (w5.setCell ⟨g, piv.length, none⟩ (.slice (some ⟨b, 0, none⟩) (rd_L1 rows a).length cb)).setCell ⟨g, a.toNat, none⟩ (.slice An (rd_L1 rows (piv.length : Int)).length cn) = w6 at E2 P2 ⊢
                clear E1 P1 HN HUR es
                have hls := Aside0.mk (E2.out.mx.count.1)
                (try go_wp2)
                obtain ⟨un2, hun2, hrn2⟩ := E2.out.mx.rd_ (piv.length : Int) (by omega) (by have := C8.out; have := hls.out; have := hcnt.out; omega)
                simp only [Int.toNat_natCast] at hun2 hrn2
                obtain ⟨b2, cb2, e, b21, b22, _⟩ := E2.out.mx.get hun2 hrn2 c KK.out.2.2.1 C9.out
                subst e
                have HN := Aside0.mk (And.intro hun2 hrn2)
                clear hun2 hrn2
                have a8b : decide (c < ((rd_L1 (swapB rows piv.length a.toNat) (piv.length : Int)).length : Int)) = true := decide_eq_true C9.out
                have a8c := eq_true C9.out
                have E3 := Aside0.mk E2.out.drew
                have P3 := Aside0.mk (Kd.R_drew P2.out)
                clear E2 P2
                refine start_ (n := 17) (S := fun w' => w'.cell? ⟨w.heap.size, 0, none⟩ = some (.int .i64 a0_0) ∧ w'.cell? ⟨g, piv.length, none⟩ = some (.slice (some ⟨b2, 0, none⟩) (rd_L1 (swapB rows piv.length a.toNat) (piv.length : Int)).length cb2) ∧ w'.cell? ⟨b2, c.toNat, none⟩ = some (.int .i64 (rd (rd_L1 (swapB rows piv.length a.toNat) (piv.length : Int)) c))) (ds := [16]) #[false, false, false, false, false, false, false, false, false, false, false, false, false, false, false, false, false] (by kernel_rfl) rfl rfl ⟨(blk_cell (E3.out.box (b := w.heap.size) (o := .cells #[.int .i64 a0_0, .int .i64 a0_1, .slice A0_2 l0_2.length c0_2] 26 (0, 0)) (by simp)) 0).trans rfl, (E3.out.mx.cell HN.out.1).1, E3.out.mx.num HN.out.1 HN.out.2 c KK.out.2.2.1 C9.out⟩ (fun hHeld => ?_)
                generalize w6.drew = w7 at E3 P3 hHeld ⊢
                refine pure_ (i := 0) (N := some 57) (v := ?_) (a' := ?_) #[true, false, false, false, false, false, false, false, false, false, false, false, false, false, false, false, false] rfl rfl (by kernel_rfl) (fun _ _ _ h => h) (Or.inl ⟨by rfl, ?_⟩) ?_ ?_
                rotate_left
                · intro w'
                  first | (go_simp; with_reducible rfl) | (simp [go_sem, Instr.field, asAgg] <;> with_reducible rfl)
                rotate_left
                · simp only [Act.put, List.setIfInBounds_toArray, List.set_cons_zero, List.set_cons_succ, i64_w, i32_w]
                  rfl
                refine pure_ (i := 2) (N := some 59) (v := ?_) (a' := ?_) #[true, false, true, false, false, false, false, false, false, false, false, false, false, false, false, false, false] rfl rfl (by kernel_rfl) (fun _ _ _ h => h) (Or.inl ⟨by rfl, ?_⟩) ?_ ?_
                rotate_left
                · intro w'
                  first | (go_simp; with_reducible rfl) | (simp [go_sem, Instr.field, asAgg] <;> with_reducible rfl)
                rotate_left
                · simp only [Act.put, List.setIfInBounds_toArray, List.set_cons_zero, List.set_cons_succ, i64_w, i32_w]
                  rfl
                refine pure_ (i := 3) (N := some 60) (v := ?_) (a' := ?_) #[true, false, true, true, false, false, false, false, false, false, false, false, false, false, false, false, false] rfl rfl (by kernel_rfl) (fun _ _ _ h => h) (Or.inl ⟨by rfl, ?_⟩) ?_ ?_
                rotate_left
                · intro w'
                  first | (go_simp; with_reducible rfl) | (simp [go_sem, Instr.field, asAgg] <;> with_reducible rfl)
                rotate_left
                · simp only [Act.put, List.setIfInBounds_toArray, List.set_cons_zero, List.set_cons_succ, i64_w, i32_w]
                  rfl
                refine pure_ (i := 4) (N := some 61) (v := ?_) (a' := ?_) #[true, false, true, true, true, false, false, false, false, false, false, false, false, false, false, false, false] rfl rfl (by kernel_rfl) (fun _ _ _ h => h) (Or.inl ⟨by rfl, ?_⟩) ?_ ?_
                rotate_left
                · intro w'
                  first | (go_simp; with_reducible rfl) | (simp [go_sem, Instr.field, asAgg] <;> with_reducible rfl)
                rotate_left
                · simp only [Act.put, List.setIfInBounds_toArray, List.set_cons_zero, List.set_cons_succ, i64_w, i32_w]
                  rfl
                refine pure_ (i := 6) (N := some 63) (v := ?_) (a' := ?_) #[true, false, true, true, true, false, true, false, false, false, false, false, false, false, false, false, false] rfl rfl (by kernel_rfl) (fun _ _ _ h => h) (Or.inl ⟨by rfl, ?_⟩) ?_ ?_
                rotate_left
                · intro w'
                  first | (go_simp; with_reducible rfl) | (simp [go_sem, Instr.field, asAgg] <;> with_reducible rfl)
                rotate_left
                · simp only [Act.put, List.setIfInBounds_toArray, List.set_cons_zero, List.set_cons_succ, i64_w, i32_w]
                  rfl
                refine pure_ (i := 8) (N := some 65) (v := ?_) (a' := ?_) #[true, false, true, true, true, false, true, false, true, false, false, false, false, false, false, false, false] rfl rfl (by kernel_rfl) (fun _ _ _ h => h) (Or.inl ⟨by rfl, ?_⟩) ?_ ?_
                rotate_left
                · intro w'
                  first | (go_simp; with_reducible rfl) | (simp [go_sem, Instr.field, asAgg] <;> with_reducible rfl)
                rotate_left
                · simp only [Act.put, List.setIfInBounds_toArray, List.set_cons_zero, List.set_cons_succ, i64_w, i32_w]
                  rfl
                refine pure_ (i := 9) (N := some 66) (v := ?_) (a' := ?_) #[true, false, true, true, true, false, true, false, true, true, false, false, false, false, false, false, false] rfl rfl (by kernel_rfl) (fun _ _ _ h => h) (Or.inl ⟨by rfl, ?_⟩) ?_ ?_
                rotate_left
                · intro w'
                  first | (go_simp; with_reducible rfl) | (simp [go_sem, Instr.field, asAgg] <;> with_reducible rfl)
                rotate_left
                · simp only [Act.put, List.setIfInBounds_toArray, List.set_cons_zero, List.set_cons_succ, i64_w, i32_w]
                  rfl
                refine pure_ (i := 10) (N := some 67) (v := ?_) (a' := ?_) #[true, false, true, true, true, false, true, false, true, true, true, false, false, false, false, false, false] rfl rfl (by kernel_rfl) (fun _ _ _ h => h) (Or.inl ⟨by rfl, ?_⟩) ?_ ?_
                rotate_left
                · intro w'
                  first | (go_simp; with_reducible rfl) | (simp [go_sem, Instr.field, asAgg] <;> with_reducible rfl)
                rotate_left
                · simp only [Act.put, List.setIfInBounds_toArray, List.set_cons_zero, List.set_cons_succ, i64_w, i32_w]
                  rfl
                refine pure_ (i := 12) (N := some 69) (v := ?_) (a' := ?_) #[true, false, true, true, true, false, true, false, true, true, true, false, true, false, false, false, false] rfl rfl (by kernel_rfl) (fun _ _ _ h => h) (Or.inl ⟨by rfl, ?_⟩) ?_ ?_
                rotate_left
                · intro w'
                  first | (go_simp; with_reducible rfl) | (simp [go_sem, Instr.field, asAgg] <;> with_reducible rfl)
                rotate_left
                · simp only [Act.put, List.setIfInBounds_toArray, List.set_cons_zero, List.set_cons_succ, i64_w, i32_w]
                  rfl
                refine take_ (i := 1) (N := some 58) (v := ?_) (a' := ?_) #[true, true, true, true, true, false, true, false, true, true, true, false, true, false, false, false, false] rfl rfl (by kernel_rfl) (fun _ _ _ h => h) (Or.inl ⟨by rfl, ?_⟩) hHeld ?_ ?_
                rotate_left
                · rintro w' ⟨s0, s1, s2⟩
                  go_simp
                  with_reducible rfl
                rotate_left
                · simp only [Act.put, List.setIfInBounds_toArray, List.set_cons_zero, List.set_cons_succ, i64_w, i32_w]
                  rfl
                refine take_ (i := 5) (N := some 62) (v := ?_) (a' := ?_) #[true, true, true, true, true, true, true, false, true, true, true, false, true, false, false, false, false] rfl rfl (by kernel_rfl) (fun _ _ _ h => h) (Or.inl ⟨by rfl, ?_⟩) hHeld ?_ ?_
                rotate_left
                · rintro w' ⟨s0, s1, s2⟩
                  go_simp
                  with_reducible rfl
                rotate_left
                · simp only [Act.put, List.setIfInBounds_toArray, List.set_cons_zero, List.set_cons_succ, i64_w, i32_w]
                  rfl
                refine take_ (i := 7) (N := some 64) (v := ?_) (a' := ?_) #[true, true, true, true, true, true, true, true, true, true, true, false, true, false, false, false, false] rfl rfl (by kernel_rfl) (fun _ _ _ h => h) (Or.inl ⟨by rfl, ?_⟩) hHeld ?_ ?_
                rotate_left
                · rintro w' ⟨s0, s1, s2⟩
                  go_simp
                  with_reducible rfl
                rotate_left
                · simp only [Act.put, List.setIfInBounds_toArray, List.set_cons_zero, List.set_cons_succ, i64_w, i32_w]
                  rfl
                refine take_ (i := 11) (N := some 68) (v := ?_) (a' := ?_) #[true, true, true, true, true, true, true, true, true, true, true, true, true, false, false, false, false] rfl rfl (by kernel_rfl) (fun _ _ _ h => h) (Or.inl ⟨by rfl, ?_⟩) hHeld ?_ ?_
                rotate_left
                · rintro w' ⟨s0, s1, s2⟩
                  go_simp
                  with_reducible rfl
                rotate_left
                · simp only [Act.put, List.setIfInBounds_toArray, List.set_cons_zero, List.set_cons_succ, i64_w, i32_w]
                  rfl
                refine pure_ (i := 13) (N := some 70) (v := ?_) (a' := ?_) #[true, true, true, true, true, true, true, true, true, true, true, true, true, true, false, false, false] rfl rfl (by kernel_rfl) (fun _ _ _ h => h) (Or.inl ⟨by rfl, ?_⟩) ?_ ?_
                rotate_left
                · intro w'
                  first | (go_simp; with_reducible rfl) | (simp [go_sem, Instr.field, asAgg] <;> with_reducible rfl)
                rotate_left
                · simp only [Act.put, List.setIfInBounds_toArray, List.set_cons_zero, List.set_cons_succ, i64_w, i32_w]
                  rfl
                refine take_ (i := 14) (N := some 71) (v := ?_) (a' := ?_) #[true, true, true, true, true, true, true, true, true, true, true, true, true, true, true, false, false] rfl rfl (by kernel_rfl) (fun _ _ _ h => h) (Or.inl ⟨by rfl, ?_⟩) hHeld ?_ ?_
                rotate_left
                · rintro w' ⟨s0, s1, s2⟩
                  go_simp
                  with_reducible rfl
                rotate_left
                · simp only [Act.put, List.setIfInBounds_toArray, List.set_cons_zero, List.set_cons_succ, i64_w, i32_w]
                  rfl
                refine one_ (i := 15) (N := some 72) #[true, true, true, true, true, true, true, true, true, true, true, true, true, true, true, true, false] rfl rfl (by kernel_rfl) (by decide) (fun K hK => ?_)
                refine goes_ Try.func70 (by kernel_rfl) rfl #[.int .i64 a0_0, .int .i64 (rd (rd_L1 (swapB rows piv.length a.toNat) (piv.length : Int)) c)] (by rfl) rfl rfl (by simp only [List.map_toArray, List.map_cons, List.map_nil]; rfl) ?_
                with_reducible refine (impl_inverse.calls k1 a0_0 (rd (rd_L1 (swapB rows piv.length a.toNat) (piv.length : Int)) c) inv _ B3.out).mono ?_
                rintro e w8 ⟨rfl, hd⟩
                refine ⟨_, rfl, ?_⟩
                have E4 := Aside0.mk (E3.out.below hd.below)
                have P4 := Aside0.mk (Kd.R_below P3.out hd.below)
                clear E3 P3 hd
                refine hK.out _ _ ⟨(blk_cell (E4.out.box (b := w.heap.size) (o := .cells #[.int .i64 a0_0, .int .i64 a0_1, .slice A0_2 l0_2.length c0_2] 26 (0, 0)) (by simp)) 0).trans rfl, (E4.out.mx.cell HN.out.1).1, E4.out.mx.num HN.out.1 HN.out.2 c KK.out.2.2.1 C9.out⟩ (fun hHeld => ?_)
                clear hK K
                refine norm_ (a' := ?_) ?_ ?_
                rotate_left
                · show Act.put _ (some 72) _ = _
                  simp only [Act.put, List.setIfInBounds_toArray, List.set_cons_zero, List.set_cons_succ, i64_w, i32_w]
                  rfl
                refine last_ (i := 16) (N := some 73) #[true, true, true, true, true, true, true, true, true, true, true, true, true, true, true, true, true] rfl rfl (by kernel_rfl) (by decide) (fun K hK => ?_)
                refine goes_ Try.func69 (by kernel_rfl) rfl #[.int .i64 a0_0, (.slice (some ⟨b2, 0, none⟩) (rd_L1 (swapB rows piv.length a.toNat) (piv.length : Int)).length cb2), .int .i64 inv] (by rfl) rfl rfl (by simp only [List.map_toArray, List.map_cons, List.map_nil]; rfl) ?_
                with_reducible refine (impl_scaled.calls k1 a0_0 (fun k_ => some k_ = ((.slice (some ⟨b2, 0, none⟩) (rd_L1 (swapB rows piv.length a.toNat) (piv.length : Int)).length cb2) : Value).ownBlock ∧ w.heap.size + 2 ≤ k_ ∧ k_ < hi) (.slice (some ⟨b2, 0, none⟩) (rd_L1 (swapB rows piv.length a.toNat) (piv.length : Int)).length cb2) (rd_L1 (swapB rows piv.length a.toNat) (piv.length : Int)) inv r w _ E4.out.be (E4.out.mx.row _ _ _ HN.out.1 HN.out.2) B4.out).mono ?_
                rintro e w9 ⟨rfl, hR, hBw, hK⟩
                refine ⟨_, rfl, ?_⟩
                have E5 := Aside0.mk (E4.out.put HN.out.1 HN.out.2 hR hK hBw)
                have P5 := Aside0.mk (R_aside P4.out (Nat.le_refl _) hK)
                clear E4 P4 hR hBw hK
                refine hK.out _ _ ?_
                clear hK K
                refine norm_ (a' := ?_) ?_ ?_
                rotate_left
                · show Act.put _ (some 73) _ = _
                  simp only [Act.put, List.setIfInBounds_toArray, List.set_cons_zero, List.set_cons_succ, i64_w, i32_w]
                  rfl
                refine done_ (by kernel_rfl) ?_
                clear hHeld HN a8b a8c
                generalize (swapB rows piv.length a.toNat).set piv.length r = rz at E5 B5
                (try go_wp2)
                go_loopg [76] k1 (fun kq v76 w' => ∃ (i : Int) (rx : List (List Int)), v76 = .int .i64 i ∧ Aside0 (impl_Matrix_echelon.l2 kq a0_0 c (piv.length : Int) rx i = some rows2) ∧ Aside0 (kq ≤ k1) ∧ Aside0 (Mw w w' (w.heap.size + 2) hi hi ([(w.heap.size, .cells #[.int .i64 a0_0, .int .i64 a0_1, .slice A0_2 l0_2.length c0_2] 26 (0, 0)), (w.heap.size + 1, .cells #[(.int .i64 0 : Value), (.int .i64 0 : Value), (.slice none 0 0 : Value)] 26 (0, 0))]) (.slice (some ⟨g, 0, none⟩) n0 c1) vs2 rx) ∧ Aside0 (Kd.R (Kd.int .i64) 3 w' w.heap.size (fun k_ => hi ≤ k_) (.slice A5 piv.length c5) piv))
                case atStart => exact ⟨0, rz, rfl, B5, ⟨Nat.le_refl _⟩, E5, P5⟩
                case round =>
                  clear B5 E5 P5
                  obtain ⟨i, rx, rfl, HA, HK3, E, P⟩ := hrel
                  have hct := Aside0.mk E.out.mx.count.1
                  cases gk with
                  | zero => exact absurd HA.out (by simp [impl_Matrix_echelon.l2])
                  | succ k3 =>
                    have H := HA.out
                    clear HA
                    simp only [impl_Matrix_echelon.l2] at H
                    by_cases d1 : i < (rx.length : Int)
                    · rw [if_pos d1] at H
                      by_cases d2 : 0 ≤ i
                      case neg => rw [if_neg d2] at H; exact absurd H (by simp)
                      rw [if_pos d2] at H
                      obtain ⟨u, hu, hr⟩ := E.out.mx.rd_ i d2 d1
                      obtain ⟨Au, cu, eu, _, _⟩ := E.out.mx.rslice hu hr
                      subst eu
                      have hy := (E.out.mx.cell hu).1
                      have d1b : decide (i < (n0 : Int)) = true := decide_eq_true (by have := hct.out; omega)
                      have d1c := eq_true (show i < (n0 : Int) by have := hct.out; omega)
                      have d2b : decide (0 ≤ i) = true := decide_eq_true d2
                      have HU := Aside0.mk (And.intro hu hr)
                      have HI := Aside0.mk (And.intro d1 d2)
                      clear hu hr d1
                      replace d2 := eq_true d2
                      by_cases d3 : i = (piv.length : Int)
                      · rw [if_pos d3] at H
                        have d3b : (i == (piv.length : Int)) = true := beq_iff_eq.mpr d3
                        have d3c : (i != (piv.length : Int)) = false := by rw [bne, d3b]; rfl
                        replace d3 := Aside0.mk d3
                        have H' := Aside0.mk H
                        clear H
                        go_wp2
                        go_roundg k3
                        case measure => have := HK1.out; have := HK2.out; have := HK3.out; omega
                        case rel => exact ⟨_, rx, rfl, H', ⟨by have := HK3.out; omega⟩, E, P⟩
                      · rw [if_neg d3] at H
                        have d3b : (i == (piv.length : Int)) = false := beq_eq_false_iff_ne.mpr d3
                        have d3c : (i != (piv.length : Int)) = true := bne_iff_ne.mpr d3
                        have D3 := Aside0.mk d3
                        clear d3
                        by_cases d4 : 0 ≤ (piv.length : Int)
                        case neg => rw [if_neg d4] at H; exact absurd H (by simp)
                        rw [if_pos d4] at H
                        by_cases d5 : (piv.length : Int) < (rx.length : Int)
                        case neg => rw [if_neg d5] at H; exact absurd H (by simp)
                        rw [if_pos d5] at H
                        rw [if_pos KK.out.2.2.1] at H
                        by_cases d6 : c < ((rd_L1 rx i).length : Int)
                        case neg => rw [if_neg d6] at H; exact absurd H (by simp)
                        rw [if_pos d6] at H
                        replace H := Option.bind_eq_some_iff.mp H
                        obtain ⟨q, At, H⟩ := H
                        have B6 := Aside0.mk At
                        clear At
                        have H' := Aside0.mk H
                        clear H
                        obtain ⟨bu, cb2, e, _, _, _⟩ := E.out.mx.get HU.out.1 HU.out.2 c KK.out.2.2.1 d6
                        injection e with e1 _ e3
                        subst e1
                        subst e3
                        obtain ⟨un, hun, hrn⟩ := E.out.mx.rd_ (piv.length : Int) d4 d5
                        simp only [Int.toNat_natCast] at hun hrn
                        obtain ⟨Am, cm, em, hcm, _⟩ := E.out.mx.rslice hun hrn
                        subst em
                        have HN := Aside0.mk (And.intro hun (And.intro hrn hcm))
                        clear hun hrn hcm
                        have d6b : decide (c < ((rd_L1 rx i).length : Int)) = true := decide_eq_true d6
                        have D6 := Aside0.mk d6
                        replace d6 := eq_true d6
                        clear d4 d5
                        go_wp2
                        have E6 := Aside0.mk E.out.drew
                        have P6 := Aside0.mk (Kd.R_drew P.out)
                        clear E P hy
                        refine start_ (n := 12) (S := fun w' => w'.cell? ⟨w.heap.size, 0, none⟩ = some (.int .i64 a0_0) ∧ w'.cell? ⟨g, piv.length, none⟩ = some (.slice Am (rd_L1 rx (piv.length : Int)).length cm) ∧ w'.cell? ⟨bu, c.toNat, none⟩ = some (.int .i64 (rd (rd_L1 rx i) c))) (ds := [11]) #[false, false, false, false, false, false, false, false, false, false, false, false] (by kernel_rfl) rfl rfl ⟨(blk_cell (E6.out.box (b := w.heap.size) (o := .cells #[.int .i64 a0_0, .int .i64 a0_1, .slice A0_2 l0_2.length c0_2] 26 (0, 0)) (by simp)) 0).trans rfl, (E6.out.mx.cell HN.out.1).1, E6.out.mx.num HU.out.1 HU.out.2 c KK.out.2.2.1 D6.out⟩ (fun hHeld => ?_)
                        generalize wr.drew = w8 at E6 P6 hHeld ⊢
                        refine pure_ (i := 0) (N := some 84) (v := ?_) (a' := ?_) #[true, false, false, false, false, false, false, false, false, false, false, false] rfl rfl (by kernel_rfl) (fun _ _ _ h => h) (Or.inl ⟨by rfl, ?_⟩) ?_ ?_
                        rotate_left
                        · intro w'
                          first | (go_simp; with_reducible rfl) | (simp [go_sem, Instr.field, asAgg] <;> with_reducible rfl)
                        rotate_left
                        · simp only [Act.put, List.setIfInBounds_toArray, List.set_cons_zero, List.set_cons_succ, i64_w, i32_w]
                          rfl
                        refine pure_ (i := 2) (N := some 86) (v := ?_) (a' := ?_) #[true, false, true, false, false, false, false, false, false, false, false, false] rfl rfl (by kernel_rfl) (fun _ _ _ h => h) (Or.inl ⟨by rfl, ?_⟩) ?_ ?_
                        rotate_left
                        · intro w'
                          first | (go_simp; with_reducible rfl) | (simp [go_sem, Instr.field, asAgg] <;> with_reducible rfl)
                        rotate_left
                        · simp only [Act.put, List.setIfInBounds_toArray, List.set_cons_zero, List.set_cons_succ, i64_w, i32_w]
                          rfl
                        refine pure_ (i := 3) (N := some 87) (v := ?_) (a' := ?_) #[true, false, true, true, false, false, false, false, false, false, false, false] rfl rfl (by kernel_rfl) (fun _ _ _ h => h) (Or.inl ⟨by rfl, ?_⟩) ?_ ?_
                        rotate_left
                        · intro w'
                          first | (go_simp; with_reducible rfl) | (simp [go_sem, Instr.field, asAgg] <;> with_reducible rfl)
                        rotate_left
                        · simp only [Act.put, List.setIfInBounds_toArray, List.set_cons_zero, List.set_cons_succ, i64_w, i32_w]
                          rfl
                        refine pure_ (i := 4) (N := some 88) (v := ?_) (a' := ?_) #[true, false, true, true, true, false, false, false, false, false, false, false] rfl rfl (by kernel_rfl) (fun _ _ _ h => h) (Or.inl ⟨by rfl, ?_⟩) ?_ ?_
                        rotate_left
                        · intro w'
                          first | (go_simp; with_reducible rfl) | (simp [go_sem, Instr.field, asAgg] <;> with_reducible rfl)
                        rotate_left
                        · simp only [Act.put, List.setIfInBounds_toArray, List.set_cons_zero, List.set_cons_succ, i64_w, i32_w]
                          rfl
                        refine pure_ (i := 5) (N := some 89) (v := ?_) (a' := ?_) #[true, false, true, true, true, true, false, false, false, false, false, false] rfl rfl (by kernel_rfl) (fun _ _ _ h => h) (Or.inl ⟨by rfl, ?_⟩) ?_ ?_
                        rotate_left
                        · intro w'
                          first | (go_simp; with_reducible rfl) | (simp [go_sem, Instr.field, asAgg] <;> with_reducible rfl)
                        rotate_left
                        · simp only [Act.put, List.setIfInBounds_toArray, List.set_cons_zero, List.set_cons_succ, i64_w, i32_w]
                          rfl
                        refine pure_ (i := 7) (N := some 91) (v := ?_) (a' := ?_) #[true, false, true, true, true, true, false, true, false, false, false, false] rfl rfl (by kernel_rfl) (fun _ _ _ h => h) (Or.inl ⟨by rfl, ?_⟩) ?_ ?_
                        rotate_left
                        · intro w'
                          first | (go_simp; with_reducible rfl) | (simp [go_sem, Instr.field, asAgg] <;> with_reducible rfl)
                        rotate_left
                        · simp only [Act.put, List.setIfInBounds_toArray, List.set_cons_zero, List.set_cons_succ, i64_w, i32_w]
                          rfl
                        refine pure_ (i := 8) (N := some 92) (v := ?_) (a' := ?_) #[true, false, true, true, true, true, false, true, true, false, false, false] rfl rfl (by kernel_rfl) (fun _ _ _ h => h) (Or.inl ⟨by rfl, ?_⟩) ?_ ?_
                        rotate_left
                        · intro w'
                          first | (go_simp; with_reducible rfl) | (simp [go_sem, Instr.field, asAgg] <;> with_reducible rfl)
                        rotate_left
                        · simp only [Act.put, List.setIfInBounds_toArray, List.set_cons_zero, List.set_cons_succ, i64_w, i32_w]
                          rfl
                        refine pure_ (i := 9) (N := some 93) (v := ?_) (a' := ?_) #[true, false, true, true, true, true, false, true, true, true, false, false] rfl rfl (by kernel_rfl) (fun _ _ _ h => h) (Or.inl ⟨by rfl, ?_⟩) ?_ ?_
                        rotate_left
                        · intro w'
                          first | (go_simp; with_reducible rfl) | (simp [go_sem, Instr.field, asAgg] <;> with_reducible rfl)
                        rotate_left
                        · simp only [Act.put, List.setIfInBounds_toArray, List.set_cons_zero, List.set_cons_succ, i64_w, i32_w]
                          rfl
                        refine take_ (i := 1) (N := some 85) (v := ?_) (a' := ?_) #[true, true, true, true, true, true, false, true, true, true, false, false] rfl rfl (by kernel_rfl) (fun _ _ _ h => h) (Or.inl ⟨by rfl, ?_⟩) hHeld ?_ ?_
                        rotate_left
                        · rintro w' ⟨s0, s1, s2⟩
                          go_simp
                          with_reducible rfl
                        rotate_left
                        · simp only [Act.put, List.setIfInBounds_toArray, List.set_cons_zero, List.set_cons_succ, i64_w, i32_w]
                          rfl
                        refine take_ (i := 6) (N := some 90) (v := ?_) (a' := ?_) #[true, true, true, true, true, true, true, true, true, true, false, false] rfl rfl (by kernel_rfl) (fun _ _ _ h => h) (Or.inl ⟨by rfl, ?_⟩) hHeld ?_ ?_
                        rotate_left
                        · rintro w' ⟨s0, s1, s2⟩
                          go_simp
                          with_reducible rfl
                        rotate_left
                        · simp only [Act.put, List.setIfInBounds_toArray, List.set_cons_zero, List.set_cons_succ, i64_w, i32_w]
                          rfl
                        refine take_ (i := 10) (N := some 94) (v := ?_) (a' := ?_) #[true, true, true, true, true, true, true, true, true, true, true, false] rfl rfl (by kernel_rfl) (fun _ _ _ h => h) (Or.inl ⟨by rfl, ?_⟩) hHeld ?_ ?_
                        rotate_left
                        · rintro w' ⟨s0, s1, s2⟩
                          go_simp
                          with_reducible rfl
                        rotate_left
                        · simp only [Act.put, List.setIfInBounds_toArray, List.set_cons_zero, List.set_cons_succ, i64_w, i32_w]
                          rfl
                        refine last_ (i := 11) (N := some 95) #[true, true, true, true, true, true, true, true, true, true, true, true] rfl rfl (by kernel_rfl) (by decide) (fun K hK => ?_)
                        refine goes_ Try.func71 (by kernel_rfl) rfl #[.int .i64 a0_0, (.slice (some ⟨bu, 0, none⟩) (rd_L1 rx i).length cu), (.slice Am (rd_L1 rx (piv.length : Int)).length cm), .int .i64 (rd (rd_L1 rx i) c)] (by rfl) rfl rfl (by simp only [List.map_toArray, List.map_cons, List.map_nil]; rfl) ?_
                        with_reducible refine (impl_takeOff.calls k3 a0_0 (fun k_ => some k_ = ((.slice (some ⟨bu, 0, none⟩) (rd_L1 rx i).length cu) : Value).ownBlock ∧ w.heap.size + 2 ≤ k_ ∧ k_ < hi) (.slice (some ⟨bu, 0, none⟩) (rd_L1 rx i).length cu) (rd_L1 rx i) Am cm (rd_L1 rx (piv.length : Int)) (rd (rd_L1 rx i) c) q w _ E6.out.be (E6.out.mx.row _ _ _ HU.out.1 HU.out.2) (E6.out.mx.other (by have := D3.out; have := HI.out; omega) HU.out.1 HN.out.1 HN.out.2.1) HN.out.2.2 B6.out).mono ?_
                        rintro e w9 ⟨rfl, hR, hBw, hK⟩
                        refine ⟨_, rfl, ?_⟩
                        have E7 := Aside0.mk (E6.out.put HU.out.1 HU.out.2 hR hK hBw)
                        have P7 := Aside0.mk (R_aside P6.out (Nat.le_refl _) hK)
                        clear E6 P6 hR hBw hK
                        refine hK.out _ _ ?_
                        clear hK K
                        refine norm_ (a' := ?_) ?_ ?_
                        rotate_left
                        · show Act.put _ (some 95) _ = _
                          simp only [Act.put, List.setIfInBounds_toArray, List.set_cons_zero, List.set_cons_succ, i64_w, i32_w]
                          rfl
                        refine done_ (by kernel_rfl) ?_
                        clear hHeld
                        (try go_wp2)
                        go_roundg k3
                        case measure => have := HK1.out; have := HK2.out; have := HK3.out; omega
                        case rel => exact ⟨_, _, rfl, H', ⟨by have := HK3.out; omega⟩, E7, P7⟩
                    · rw [if_neg d1] at H
                      obtain rfl := Option.some.inj H
                      clear H
                      have d1b : decide (i < (n0 : Int)) = false := decide_eq_false (by have := hct.out; omega)
                      replace d1 := Aside0.mk d1
                      go_wp2_with (first | ((with_reducible refine gate_builtin (b := .append) (xs := #[.tmp 97, .tmp 99]) rfl ?_); at_builtin; refine Kd.R_append (Kd.int .i64) (w0 := w) w.heap.size rfl (.tmp 97) (.tmp 99) 67 3 (.int .i64 0) 8 rfl Try.underlying67 info3 rfl (by decide) (by omega) (.slice A5 piv.length c5) piv c [.int .i64 c] (fun k_ => hi ≤ k_) (fun _ => False) rfl rfl ?aP (fun _ hk => hk.elim) ?aF ?aO ?aB ?aS ?aL ?_; (case aP => exact rfl); (case aB => exact E.out.be); (case aF => exact (fun k_ hk_ => Nat.le_trans E.out.t0 hk_)); (case aO => exact P.out); (case aS => exact (below_size E.out.be)); (case aL => have := C10.out; omega); intro v9 w9 ho hb hg hat; have E7 := Aside0.mk (E.out.grown hg (fun b_ hb_ => P.out.1 b_ hb_) hb); have P7 := Aside0.mk ho; clear E P ho hb hg hat))
                      go_roundg k1
                      case measure => have := HK1.out; have := HK2.out; have := HK3.out; omega
                      case rel => exact ⟨_, _, _, vs2, rfl, H', ⟨by have := HK1.out; omega⟩, E7, P7⟩
            · rw [if_neg c3] at H
              obtain rfl := Option.some.inj H
              have a1b : decide (a < (n0 : Int)) = false := decide_eq_false (by have := hcnt.out; omega)
              have H := H1.out
              by_cases ca : a = (rows.length : Int)
              · rw [if_pos ca] at H
                have a2b : (a == (n0 : Int)) = true := by rw [ca, hcnt.out]; simp
                have H' := Aside0.mk H
                clear H H1
                replace ca := Aside0.mk ca
                replace c3 := Aside0.mk c3
                go_wp2
                go_roundg k1
                case measure => have := HK1.out; have := HK2.out; omega
                case rel => exact ⟨_, rows, piv, vs, rfl, H', ⟨by have := HK1.out; omega⟩, E, P⟩
              · rw [if_neg ca] at H
                by_cases c4 : 0 ≤ a
                · rw [if_pos c4, if_neg c3] at H; exact absurd H (by simp)
                · rw [if_neg c4] at H; exact absurd H (by simp)
      · rw [if_neg c2] at H
        have c2b : decide (c < a0_1) = false := decide_eq_false c2
        obtain ⟨rfl, rfl⟩ := (by simpa using H : rows = rs ∧ piv = ps)
        clear H c2
        obtain ⟨A5, c5, e5⟩ := Kd.R_slice P.out
        subst e5
        have hct := E.out.mx.count
        obtain ⟨i0_, hi0_, _, _, _⟩ := info_parts info35
        have hcut := cut_to (P := Try.prog) 22 35 .i64 Try.underlying22 hi0_ A1 n0 c1 (piv.length : Int) (by omega) (by have := CL.out; omega) hct.2
        simp only [Int.toNat_natCast] at hcut
        clear hct hi0_
        go_wp2
        have E1 := Aside0.mk E.out.drew
        have P1 := Aside0.mk (Kd.R_drew P.out)
        clear E P
        refine start_ (n := 12) (S := fun w' => w'.cell? ⟨w.heap.size, 0, none⟩ = some (.int .i64 a0_0) ∧ w'.cell? ⟨w.heap.size, 1, none⟩ = some (.int .i64 a0_1)) (ds := [10]) #[false, false, false, false, false, false, false, false, false, false, false, false] (by kernel_rfl) rfl rfl ⟨(blk_cell (E1.out.box (b := w.heap.size) (o := .cells #[.int .i64 a0_0, .int .i64 a0_1, .slice A0_2 l0_2.length c0_2] 26 (0, 0)) (by simp)) 0).trans rfl, (blk_cell (E1.out.box (b := w.heap.size) (o := .cells #[.int .i64 a0_0, .int .i64 a0_1, .slice A0_2 l0_2.length c0_2] 26 (0, 0)) (by simp)) 1).trans rfl⟩ (fun hHeld => ?_)
        generalize wr.drew = w5 at E1 P1 hHeld ⊢
        have hz0 : w5.cell? ⟨w.heap.size + 1, 0, none⟩ = some (.int .i64 0 : Value) := (blk_cell (E1.out.box (b := w.heap.size + 1) (o := .cells #[(.int .i64 0 : Value), (.int .i64 0 : Value), (.slice none 0 0 : Value)] 26 (0, 0)) (by simp)) 0).trans rfl
        have hzf0 := blk_frozen (E1.out.box (b := w.heap.size + 1) (o := .cells #[(.int .i64 0 : Value), (.int .i64 0 : Value), (.slice none 0 0 : Value)] 26 (0, 0)) (by simp)) 0
        have hz1 : w5.cell? ⟨w.heap.size + 1, 1, none⟩ = some (.int .i64 0 : Value) := (blk_cell (E1.out.box (b := w.heap.size + 1) (o := .cells #[(.int .i64 0 : Value), (.int .i64 0 : Value), (.slice none 0 0 : Value)] 26 (0, 0)) (by simp)) 1).trans rfl
        have hzf1 := blk_frozen (E1.out.box (b := w.heap.size + 1) (o := .cells #[(.int .i64 0 : Value), (.int .i64 0 : Value), (.slice none 0 0 : Value)] 26 (0, 0)) (by simp)) 1
        have hz2 : w5.cell? ⟨w.heap.size + 1, 2, none⟩ = some (.slice none 0 0 : Value) := (blk_cell (E1.out.box (b := w.heap.size + 1) (o := .cells #[(.int .i64 0 : Value), (.int .i64 0 : Value), (.slice none 0 0 : Value)] 26 (0, 0)) (by simp)) 2).trans rfl
        have hzf2 := blk_frozen (E1.out.box (b := w.heap.size + 1) (o := .cells #[(.int .i64 0 : Value), (.int .i64 0 : Value), (.slice none 0 0 : Value)] 26 (0, 0)) (by simp)) 2
        refine pure_ (i := 0) (N := some 102) (v := ?_) (a' := ?_) #[true, false, false, false, false, false, false, false, false, false, false, false] rfl rfl (by kernel_rfl) (fun _ _ _ h => h) (Or.inl ⟨by rfl, ?_⟩) ?_ ?_
        rotate_left
        · intro w'
          first | (go_simp; with_reducible rfl) | (simp [go_sem, Instr.field, asAgg] <;> with_reducible rfl)
        rotate_left
        · simp only [Act.put, List.setIfInBounds_toArray, List.set_cons_zero, List.set_cons_succ, i64_w, i32_w]
          rfl
        refine pure_ (i := 2) (N := some 104) (v := ?_) (a' := ?_) #[true, false, true, false, false, false, false, false, false, false, false, false] rfl rfl (by kernel_rfl) (fun _ _ _ h => h) (Or.inl ⟨by rfl, ?_⟩) ?_ ?_
        rotate_left
        · intro w'
          first | (go_simp; with_reducible rfl) | (simp [go_sem, Instr.field, asAgg] <;> with_reducible rfl)
        rotate_left
        · simp only [Act.put, List.setIfInBounds_toArray, List.set_cons_zero, List.set_cons_succ, i64_w, i32_w]
          rfl
        refine pure_ (i := 4) (N := some 106) (v := ?_) (a' := ?_) #[true, false, true, false, true, false, false, false, false, false, false, false] rfl rfl (by kernel_rfl) (fun _ _ _ h => h) (Or.inl ⟨by rfl, ?_⟩) ?_ ?_
        rotate_left
        · intro w'
          first | (go_simp; with_reducible rfl) | (simp [go_sem, Instr.field, asAgg] <;> with_reducible rfl)
        rotate_left
        · simp only [Act.put, List.setIfInBounds_toArray, List.set_cons_zero, List.set_cons_succ, i64_w, i32_w]
          rfl
        refine pure_ (i := 5) (N := some 107) (v := ?_) (a' := ?_) #[true, false, true, false, true, true, false, false, false, false, false, false] rfl rfl (by kernel_rfl) (fun _ _ _ h => h) (Or.inl ⟨by rfl, ?_⟩) ?_ ?_
        rotate_left
        · intro w'
          first | (go_simp; with_reducible rfl) | (simp [go_sem, Instr.field, asAgg] <;> with_reducible rfl)
        rotate_left
        · simp only [Act.put, List.setIfInBounds_toArray, List.set_cons_zero, List.set_cons_succ, i64_w, i32_w]
          rfl
        refine pure_ (i := 6) (N := some 108) (v := ?_) (a' := ?_) #[true, false, true, false, true, true, true, false, false, false, false, false] rfl rfl (by kernel_rfl) (fun _ _ _ h => h) (Or.inl ⟨by rfl, ?_⟩) ?_ ?_
        rotate_left
        · intro w'
          first | (go_simp; with_reducible rfl) | (simp [go_sem, Instr.field, asAgg] <;> with_reducible rfl)
        rotate_left
        · simp only [Act.put, List.setIfInBounds_toArray, List.set_cons_zero, List.set_cons_succ, i64_w, i32_w]
          rfl
        refine pure_ (i := 7) (N := some 109) (v := ?_) (a' := ?_) #[true, false, true, false, true, true, true, true, false, false, false, false] rfl rfl (by kernel_rfl) (fun _ _ _ h => h) (Or.inl ⟨by rfl, ?_⟩) ?_ ?_
        rotate_left
        · intro w'
          first | (go_simp; with_reducible rfl) | (simp [go_sem, Instr.field, asAgg] <;> with_reducible rfl)
        rotate_left
        · simp only [Act.put, List.setIfInBounds_toArray, List.set_cons_zero, List.set_cons_succ, i64_w, i32_w]
          rfl
        refine pure_ (i := 9) (N := some 111) (v := ?_) (a' := ?_) #[true, false, true, false, true, true, true, true, false, true, false, false] rfl rfl (by kernel_rfl) (fun _ _ _ h => h) (Or.inl ⟨by rfl, ?_⟩) ?_ ?_
        rotate_left
        · intro w'
          first | (go_simp; with_reducible rfl) | (simp [go_sem, Instr.field, asAgg] <;> with_reducible rfl)
        rotate_left
        · simp only [Act.put, List.setIfInBounds_toArray, List.set_cons_zero, List.set_cons_succ, i64_w, i32_w]
          rfl
        refine take_ (i := 1) (N := some 103) (v := ?_) (a' := ?_) #[true, true, true, false, true, true, true, true, false, true, false, false] rfl rfl (by kernel_rfl) (fun _ _ _ h => h) (Or.inl ⟨by rfl, ?_⟩) hHeld ?_ ?_
        rotate_left
        · rintro w' ⟨s0, s1⟩
          go_simp
          with_reducible rfl
        rotate_left
        · simp only [Act.put, List.setIfInBounds_toArray, List.set_cons_zero, List.set_cons_succ, i64_w, i32_w]
          rfl
        refine take_ (i := 3) (N := some 105) (v := ?_) (a' := ?_) #[true, true, true, true, true, true, true, true, false, true, false, false] rfl rfl (by kernel_rfl) (fun _ _ _ h => h) (Or.inl ⟨by rfl, ?_⟩) hHeld ?_ ?_
        rotate_left
        · rintro w' ⟨s0, s1⟩
          go_simp
          with_reducible rfl
        rotate_left
        · simp only [Act.put, List.setIfInBounds_toArray, List.set_cons_zero, List.set_cons_succ, i64_w, i32_w]
          rfl
        refine pure_ (i := 8) (N := some 110) (v := ?_) (a' := ?_) #[true, true, true, true, true, true, true, true, true, true, false, false] rfl rfl (by kernel_rfl) (fun _ _ _ h => h) (Or.inl ⟨by rfl, ?_⟩) ?_ ?_
        rotate_left
        · intro w'
          first | (go_simp; with_reducible rfl) | (simp [go_sem, Instr.field, asAgg] <;> with_reducible rfl)
        rotate_left
        · simp only [Act.put, List.setIfInBounds_toArray, List.set_cons_zero, List.set_cons_succ, i64_w, i32_w]
          rfl
        refine last_ (i := 10) (N := none) #[true, true, true, true, true, true, true, true, true, true, true, false] rfl rfl (by kernel_rfl) (by decide) (fun K hK => ?_)
        refine skip_ (w1 := ?_) (by rfl) rfl ?_ ?_
        rotate_left
        · go_simp
          rfl
        refine hK.out _ _ ?_
        clear hK K
        refine pure_ (i := 11) (N := some 3) (v := ?_) (a' := ?_) #[true, true, true, true, true, true, true, true, true, true, true, true] rfl rfl (by kernel_rfl) (fun _ _ _ h => h) (Or.inl ⟨by rfl, ?_⟩) ?_ ?_
        rotate_left
        · intro w'
          first | (go_simp; with_reducible rfl) | (simp [go_sem, Instr.field, asAgg] <;> with_reducible rfl)
        rotate_left
        · simp only [Act.put, List.setIfInBounds_toArray, List.set_cons_zero, List.set_cons_succ, i64_w, i32_w]
          rfl
        refine done_ (by kernel_rfl) ?_
        (try go_wp2)
        (try simp only [Exit.inBlock, Exit.then])
        refine bodyPost_ret (results_ct rfl _ _ (w.heap.size + 1) 26 #[.int .i64 a0_0, .int .i64 a0_1, .slice A1 piv.length c1] (0, 0) _ rfl (blk_put (blk_put (blk_put (E1.out.box (b := w.heap.size + 1) (o := .cells #[(.int .i64 0 : Value), (.int .i64 0 : Value), (.slice none 0 0 : Value)] 26 (0, 0)) (by simp)) 0 _ rfl) 1 _ rfl) 2 _ rfl) Try.underlying26 rfl (by kernel_rfl)) rfl ?_
        have hm := (((E1.out.mx.take CL.out).far (p := ⟨w.heap.size + 1, 0, none⟩) (.inl (by show w.heap.size + 1 < _; omega)) (.int .i64 a0_0)).far (p := ⟨w.heap.size + 1, 1, none⟩) (.inl (by show w.heap.size + 1 < _; omega)) (.int .i64 a0_1)).far (p := ⟨w.heap.size + 1, 2, none⟩) (.inl (by show w.heap.size + 1 < _; omega)) (.slice A1 piv.length c1)
        have hlh : w.heap.size + 1 < hi := by have := (E1.out.bx (w.heap.size + 1, .cells #[(.int .i64 0 : Value), (.int .i64 0 : Value), (.slice none 0 0 : Value)] 26 (0, 0)) (by simp)).2.2; exact this
        have hp := Kd.R_far (p := ⟨w.heap.size + 1, 2, none⟩) (Kd.R_far (p := ⟨w.heap.size + 1, 1, none⟩) (Kd.R_far (p := ⟨w.heap.size + 1, 0, none⟩) P1.out (fun k_ hk_ => by show k_ ≠ w.heap.size + 1; omega) (.int .i64 a0_0)) (fun k_ hk_ => by show k_ ≠ w.heap.size + 1; omega) (.int .i64 a0_1)) (fun k_ hk_ => by show k_ ≠ w.heap.size + 1; omega) (.slice A1 piv.length c1)
        exact ⟨_, _, rfl, Kd.S_mono hm.to_S (fun _ _ => trivial), Kd.R_mono hp (fun _ _ => trivial), below_set (below_set (below_set E1.out.be (by omega)) (by omega)) (by omega)⟩

end Go.Proofs.Ytjpbemomocccaaa.P
