/- For all arguments the program's PutGate and the reference's answer alike, the arguments stay, and the result is memory of its own. This text: the theorem of the row, and part 5 of what it rests on. -/
import Derived.Test.YtjnobnmjhpmpfaaCFnExactPutGated
import Derived.Below
import Derived.Carry
import Derived.ChangeOld
import Derived.OpenShut
import Derived.ProofKit
import Derived.ShutString
import Derived.SizedLaws
import Derived.Test.YtjnobnmjhpmpfaaRows
import Derived.WalkKit
/- For all arguments the program's PutGate and the reference's answer alike, the arguments stay, and the result is memory of its own. -/
namespace Go.Proofs.Ytjnobnmjhpmpfaa.Pure
open Go.RowKit Go.Proofs.Ytjnobnmjhpmpfaa.P Go.Proofs.YtjnobnmjhpmpfaaW.PrintWords Go.Proofs.YtjnobnmjhpmpfaaW.PrintLast Go.Proofs.YtjnobnmjhpmpfaaW.PrintMore
set_option linter.unusedVariables false
set_option linter.unusedSimpArgs false

theorem wfG_ofP : ∀ {x : S24}, wfS24 x → wfG x
  | x, .mk _ _ _ h3 h4 => .mk x h3 (fun y hy => wfG_ofP (h4 y hy))
theorem markGate_any (a b : Int) (l : List S29) (h : mL l ≤ 1048576) (m : Int) (h0 : 0 ≤ m) (h1 : m ≤ 4194304) : Ev (fun k => laws_markGate.f k a b l m) (m + 2 * (mL l : Int), mkL m l) :=
  Ev.step (f := fun k => laws_markGateS.l0 k l m 0) (fun k => by simp only [laws_markGate.f, laws_markGateS.f]) (markGS_ev 1048576 l h (Nat.le_refl _) [] m h0 (by omega) (by have := mL_len l; rw [List.length_nil]; omega))
theorem FnExactPutGate : laws_FnExactPutGate.Pure := by
  intro a0 x a2 y _ hx _ hy
  have s1 := szGate_ev x.f0 x.f1 x.f2 (wfL_kids (wfG_ofP hx)) 1048576 (by omega) (by omega)
  by_cases h : (nL x.f2 : Int) ≤ 1048576
  · rw [show szV 1048576 (nL x.f2) = 1048576 - (nL x.f2 : Int) from by unfold szV; rw [if_pos h]] at s1
    have s2 := szGate_ev y.f0 y.f1 y.f2 (wfL_kids (wfG_ofP hy)) (1048576 - (nL x.f2 : Int)) (by omega) (by omega)
    by_cases h' : (nL y.f2 : Int) ≤ 1048576 - (nL x.f2 : Int)
    · rw [show szV (1048576 - (nL x.f2 : Int)) (nL y.f2) = 1048576 - (nL x.f2 : Int) - (nL y.f2 : Int) from by unfold szV; rw [if_pos h']] at s2
      have hm : mL (cvL x.f2) ≤ 1048576 := by rw [mL_cv]; omega
      have hm' : mL (cvL y.f2) ≤ 1048576 := by rw [mL_cv]; omega
      have z := PutRes_size a0 ⟨x.f0, x.f1, cvL x.f2⟩ a2 ⟨y.f0, y.f1, cvL y.f2⟩
      have e1 := spec_PutGate_ev a0 x.f0 x.f1 (cvL x.f2) a2 y.f0 y.f1 (cvL y.f2) hm hm'
      have e2 := impl_PutGate_ev a0 x.f0 x.f1 (cvL x.f2) a2 y.f0 y.f1 (cvL y.f2) hm hm'
      obtain ⟨⟨r1, r2, r3, r4⟩, er⟩ : ∃ r, r = PutRes a0 ⟨x.f0, x.f1, cvL x.f2⟩ a2 ⟨y.f0, y.f1, cvL y.f2⟩ := ⟨_, rfl⟩
      rw [← er] at e1 e2 z
      dsimp only at z
      obtain ⟨k, a1, a2, a3, a4, a5, a6, a7, a8, a9, b1, b2, b3, b4⟩ := From.now (From.and s1 (From.and s2 (From.and (toGate_ev x.f0 x.f1 x.f2 (by omega)) (From.and (toGate_ev y.f0 y.f1 y.f2 (by omega)) (From.and e1 (From.and e2 (From.and (eqGate_same r1 r2 r3 z) (From.and (eqGate_same x.f0 x.f1 (cvL x.f2) hm) (From.and (eqGate_same y.f0 y.f1 (cvL y.f2) hm') (From.and (markGate_any x.f0 x.f1 (cvL x.f2) hm 1 (by omega) (by omega)) (From.and (markGate_any y.f0 y.f1 (cvL y.f2) hm' (1 + 2 * (mL (cvL x.f2) : Int)) (by omega) (by omega)) (From.and (markGate_ev r1 r2 r3 z) (heldGate_ev r1 r2 r3 z)))))))))))))
      exact Or.inr (Or.inr ⟨k, _, _, r1, r2, r3, r4, _, _, _, _, _, _, a1, decide_eq_false (by omega), a2, decide_eq_false (by omega), a3, a4, a5, a3, a4, a6, a7, a3, a8, a4, a9, b1, b2, decide_eq_false (by omega), a7, b3, b4, decide_eq_false (by omega), a3, a4, a6, a7, b4, decide_eq_false (by omega)⟩)
    · rw [show szV (1048576 - (nL x.f2 : Int)) (nL y.f2) = -1 from by unfold szV; rw [if_neg h']] at s2
      obtain ⟨k, a1, a2⟩ := From.now (From.and s1 s2)
      exact Or.inr (Or.inl ⟨k, _, _, a1, decide_eq_false (by omega), a2, by decide⟩)
  · rw [show szV 1048576 (nL x.f2) = -1 from by unfold szV; rw [if_neg h]] at s1
    obtain ⟨k, a1⟩ := From.now s1
    exact Or.inl ⟨k, _, a1, by decide⟩

end Go.Proofs.Ytjnobnmjhpmpfaa.Pure

/- The row of the law FnExactPutGate: whatever its arguments, it answers true, and they read as before. No condition. -/
namespace Go.Proofs.Ytjnobnmjhpmpfaa.fnExactPutGate
open Go.ChangeShapes Go.WideShapes Go.ChangeAt Go.RowKit Go.Proofs.Ytjnobnmjhpmpfaa.P Go.Proofs.YtjnobnmjhpmpfaaW.PrintWords Go.Proofs.YtjnobnmjhpmpfaaW.PrintLast Go.Proofs.YtjnobnmjhpmpfaaW.PrintMore
open Go.ChangeMaps (open_string shut_string)
set_option linter.unusedVariables false
theorem own : ownKnob Try.prog.godebug = none := by kernel_rfl
theorem laidOut : laidOutB Try.prog = true := by kernel_rfl
set_option maxRecDepth 100000 in
theorem lifted (os : Os) (started : os.Started) (H : Type) (enc : TypeId × Value → H) :
    ReturnsInHanded {} Try.checked os 10 .any (Rows.fnExactPutGateSpec.pre6 enc Try.prog Try.f10 Rows.fnExactPutGateRow.domain false) (Rows.fnExactPutGateSpec.post enc Try.prog Try.f10 false true false false) := by
  refine returnsInHanded_of_change_sized (C := Try.checked) own started (by kernel_rfl) Try.func10
    (ChangeSpec.witness6 (enc := enc) (C := Try.checked) false ⟨#[], #[.int .i64 0, .agg #[.int .i64 0, .int .i64 0, .slice none 0 0], .int .i64 0, .agg #[.int .i64 0, .int .i64 0, .slice none 0 0]], []⟩ 8 (by kernel_rfl) (by kernel_rfl) (by kernel_rfl) (by kernel_rfl)) ?_
  intro W base args ds gs before hval0 hW hcnd hsz0 _
  have hval : ∀ (j : Nat) t v, Try.f10.params[j]? = some t → args[j]? = some v → Value.okWide Try.prog W .any base t v := hval0
  have hW' := hW
  obtain ⟨p, q, hA0, hV, rfl, hfz, hnd⟩ := hW
  have hA : DataW.TrodAll enc Try.prog W 0 (fun _ => true) true Try.f10.params.toList args.toList ds p := hA0
  rw [Try.params10] at hA hval
  obtain ⟨v0, vs0, d0, ds0, p0, q0, hargs, rfl, rfl, h0, r0⟩ := trodAll_cons hA
  obtain ⟨v1, vs1, d1, ds1, p1, q1, rfl, rfl, rfl, h1, r1⟩ := trodAll_cons r0
  obtain ⟨v2, vs2, d2, ds2, p2, q2, rfl, rfl, rfl, h2, r2⟩ := trodAll_cons r1
  obtain ⟨v3, vs3, d3, ds3, p3, q3, rfl, rfl, rfl, h3, r3⟩ := trodAll_cons r2
  obtain ⟨rfl, rfl, rfl⟩ := trodAll_nil r3
  obtain rfl : args = #[v0, v1, v2, v3] := by cases args; simp_all
  obtain ⟨rfl, rfl⟩ := trodVars_none hV
  obtain ⟨a0, rfl, rfl, rfl, w0⟩ := open_int Try.underlying2 (hval 0 2 v0 rfl rfl) h0
  have k1 := h1
  have lt1 : ∀ x ∈ p1, x.block < W.heap.size := by obtain ⟨m, hm⟩ := k1; exact DataW.trod_lt m _ _ _ hm
  obtain ⟨cs1, rfl, _⟩ := okWide_struct Try.underlying24 (hval 1 24 v1 rfl rfl)
  obtain ⟨x1, hK1, wf1⟩ := OpensAt.any opensS24 h1
  obtain ⟨A1_2, c1_2, e1, l1_2, g1_2⟩ := k24_open hK1
  obtain rfl : cs1 = #[.int .i64 x1.f0, .int .i64 x1.f1, .slice A1_2 x1.f2.length c1_2] := by cases cs1; simpa [Value.cells] using e1
  obtain ⟨a2, rfl, rfl, rfl, w2⟩ := open_int Try.underlying2 (hval 2 2 v2 rfl rfl) h2
  have k3 := h3
  have lt3 : ∀ x ∈ p3, x.block < W.heap.size := by obtain ⟨m, hm⟩ := k3; exact DataW.trod_lt m _ _ _ hm
  obtain ⟨cs3, rfl, _⟩ := okWide_struct Try.underlying24 (hval 3 24 v3 rfl rfl)
  obtain ⟨x3, hK3, wf3⟩ := OpensAt.any opensS24 h3
  obtain ⟨A3_2, c3_2, e3, l3_2, g3_2⟩ := k24_open hK3
  obtain rfl : cs3 = #[.int .i64 x3.f0, .int .i64 x3.f1, .slice A3_2 x3.f2.length c3_2] := by cases cs3; simpa [Value.cells] using e3
  clear hA0 hval0 hsz0
  refine (P.laws_FnExactPutGate.walk Pure.FnExactPutGate a0 x1 a2 x3 _ _ _ _ W g1_2 l1_2 g3_2 l3_2 w0 wf1 w2 wf3).mono fun e W' ⟨he, bel⟩ => ?_
  subst he
  exact ⟨_, rfl, _, _, _, [], _, [], hW', trodAll_mk1 (shut_bool Try.underlying4 _), (trodAll_cons_mk (shut_int Try.underlying2 w0) (trodAll_cons_mk (Below.trod laidOut (by kernel_rfl) (of_decide_eq_true (by kernel_rfl)) k1 bel lt1) (trodAll_cons_mk (shut_int Try.underlying2 w2) (trodAll_cons_mk (Below.trod laidOut (by kernel_rfl) (of_decide_eq_true (by kernel_rfl)) k3 bel lt3) trodAll_mk0)))), rfl, bel.frame _, fun h => by cases h⟩
theorem over : Rows.fnExactPutGateRow.holds Try.pinned (OpenSpec.ofChange Rows.fnExactPutGateSpec) :=
  OpenClaim.holds_of_wide 10 Try.f10 rfl rfl rfl rfl rfl rfl rfl ⟨rfl, rfl, rfl, rfl, rfl⟩ rfl rfl rfl rfl rfl (by kernel_rfl) Try.func10 (by kernel_rfl)
    (of_decide_eq_true (by kernel_rfl)) (by unfold Func.isWrapper; first | (rw [if_pos (by decide +kernel)]; kernel_rfl) | (rw [if_neg (by decide +kernel)]; exact ⟨rfl, rfl⟩))
    (fun os started H enc _ => lifted os started H enc)
theorem proved : Rows.FnExactPutGateSaid := over
#print axioms proved
end Go.Proofs.Ytjnobnmjhpmpfaa.fnExactPutGate
namespace Go.Proofs.Ytjnobnmjhpmpfaa
/-- The row, under a short name, for the claim. -/
theorem fnExactPutGate_holds : Rows.FnExactPutGateSaid := fnExactPutGate.proved
end Go.Proofs.Ytjnobnmjhpmpfaa
