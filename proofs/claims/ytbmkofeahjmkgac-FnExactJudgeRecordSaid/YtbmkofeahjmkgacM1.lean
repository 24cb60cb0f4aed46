/- Proved here: the law laws.FnExactJudgeRecord answers true at every input, and each argument reads afterwards as it read before. Conditions: none beyond those of the given statement. -/
import Derived.Test.YtbmkofeahjmkgacL6
import Derived.Test.YtbmkofeahjmkgacK1
import Derived.Test.YtbmkofeahjmkgacRows
section
set_option linter.unusedVariables false
open Go Go.VC Go.ChangeShapes Go.WideShapes Go.ChangeAt Go.RowKit
namespace Go.Proofs.Ytbmkofeahjmkgac
theorem own : ownKnob Try.prog.godebug = none := by kernel_rfl
theorem laidOut : laidOutB Try.prog = true := by kernel_rfl
set_option maxRecDepth 100000 in
theorem lifted (os : Os) (started : os.Started) (H : Type) (enc : TypeId × Value → H) :
    ReturnsInHanded {} Try.checked os 3 .any (Rows.fnExactJudgeRecordSpec.pre6 enc Try.prog Try.f3 Rows.fnExactJudgeRecordRow.domain false) (Rows.fnExactJudgeRecordSpec.post enc Try.prog Try.f3 false true false false) := by
  refine returnsInHanded_of_change (C := Try.checked) own started (by kernel_rfl) Try.func3
    (ChangeSpec.witness6 (enc := enc) (C := Try.checked) false ⟨#[], #[.agg #[.int .i64 0, .int .i64 0, .int .i64 0], .slice none 0 0, .slice none 0 0, .int .i64 0], []⟩ 8 (by kernel_rfl) (by kernel_rfl) (by kernel_rfl) (by kernel_rfl)) ?_
  intro W base args ds gs before hval0 hW hcnd _
  have hval : ∀ (j : Nat) t v, Try.f3.params[j]? = some t → args[j]? = some v → Value.okWide Try.prog W .any base t v := hval0
  have hW' := hW
  obtain ⟨p, q, hA0, hV, rfl, hfz, hnd⟩ := hW
  have hA : DataW.TrodAll enc Try.prog W 0 (fun _ => true) true Try.f3.params.toList args.toList ds p := hA0
  rw [Try.params3] at hA hval
  obtain ⟨v0, vs0, d0, ds0, p0, q0, hargs, rfl, rfl, h0, r0⟩ := trodAll_cons hA
  obtain ⟨v1, vs1, d1, ds1, p1, q1, rfl, rfl, rfl, h1, r1⟩ := trodAll_cons r0
  obtain ⟨v2, vs2, d2, ds2, p2, q2, rfl, rfl, rfl, h2, r2⟩ := trodAll_cons r1
  obtain ⟨v3, vs3, d3, ds3, p3, q3, rfl, rfl, rfl, h3, r3⟩ := trodAll_cons r2
  obtain ⟨rfl, rfl, rfl⟩ := trodAll_nil r3
  obtain rfl : args = #[v0, v1, v2, v3] := by cases args; simp_all
  obtain ⟨rfl, rfl⟩ := trodVars_none hV
  obtain ⟨a0, b0, c0, e0, ea0, eb0, ec0⟩ : ∃ a b c : Int, v0 = .agg #[.int .i64 a, .int .i64 b, .int .i64 c] ∧ (Lit.int .i64 a).wf = true ∧ (Lit.int .i64 b).wf = true ∧ (Lit.int .i64 c).wf = true := by
    obtain ⟨x0, x1, x2, y0, y1, y2, n, e, _, _, g0, g1, g2⟩ := Go.Joins.open_agg3 Try.underlying23 (by kernel_rfl) (by kernel_rfl) (hval 0 23 v0 rfl rfl) h0
    obtain ⟨a, ea, _, wa⟩ := DataW.trod_int Try.underlying3 g0
    obtain ⟨b, eb, _, wb⟩ := DataW.trod_int Try.underlying3 g1
    obtain ⟨c, ec, _, wc⟩ := DataW.trod_int Try.underlying3 g2
    simp at ea eb ec
    exact ⟨a, b, c, by rw [e, ea, eb, ec], wa, wb, wc⟩
  have k0 := h0
  have k1 := h1
  have k2 := h2
  have lt0 : ∀ x ∈ p0, x.block < W.heap.size := by obtain ⟨m, hm⟩ := k0; exact DataW.trod_lt m _ _ _ hm
  have lt1 : ∀ x ∈ p1, x.block < W.heap.size := by obtain ⟨m, hm⟩ := k1; exact DataW.trod_lt m _ _ _ hm
  have lt2 : ∀ x ∈ p2, x.block < W.heap.size := by obtain ⟨m, hm⟩ := k2; exact DataW.trod_lt m _ _ _ hm
  obtain ⟨l1, T1, ev1, ed1, ok1⟩ : ∃ l : List ByteArray, Arg Try.prog W v1 (R 9 dStr l) := by
    obtain ⟨a, len, cap, rfl⟩ := okWide_slice Try.underlying24 (hval 1 24 v1 rfl rfl)
    obtain ⟨fuel, hf⟩ := h1
    exact arg_strs Try.underlying24 Try.underlying9 (by kernel_rfl) (by kernel_rfl) hf
  obtain ⟨l2, T2, ev2, ed2, ok2⟩ : ∃ l : List (Int × Int), Arg Try.prog W v2 (.nd (.row false 55 ()) (l.map fun p => .nd .agg [i64 p.1, i64 p.2])) := by
    obtain ⟨a, len, cap, rfl⟩ := okWide_slice Try.underlying25 (hval 2 25 v2 rfl rfl)
    obtain ⟨fuel, hf⟩ := h2
    exact arg_pairs Try.underlying25 Try.underlying55 (by kernel_rfl) rfl rfl (by kernel_rfl) (by kernel_rfl) Try.underlying3 Try.underlying3 (by kernel_rfl) hf
  obtain ⟨a3, rfl, rfl, rfl, w3⟩ := open_int Try.underlying3 (hval 3 3 v3 rfl rfl) h3
  clear hA0 hval0
  obtain ⟨T0, ev0, ed0, ok0⟩ : Arg Try.prog W v0 (.nd .agg [i64 a0, i64 b0, i64 c0]) := by rw [e0]; exact arg_ints3 ea0 eb0 ec0
  obtain ⟨T3, ev3, ed3, ok3'⟩ : Arg Try.prog W (.int .i64 a3) (i64 a3) := arg_int w3
  have hc : Calls Try.prog 3 #[v0, v1, v2, .int .i64 a3] W fun e w' => e = .returned (.bool true) ∧ Below W.heap.size W w' := by
    have := FnOk.call ok3 (W := W) (ts := [T0, T1, T2, T3]) (d := dBool true) (v := .bool true)
      (by simp only [List.map_cons, List.map_nil, ed0, ed1, ed2, ed3]; rw [sLaw_pre (s := a0) (g := b0) (a := c0) (rows := l1) (l := l2) (skip := a3)]; trivial)
      (by intro t ht; simp at ht; rcases ht with rfl | rfl | rfl | rfl; exact ok0; exact ok1; exact ok2; exact ok3')
      (by intro rs fin h; simp only [List.map_cons, List.map_nil, ed0, ed1, ed2, ed3] at h; rw [sLaw_post (s := a0) (g := b0) (a := c0) (rows := l1) (l := l2) (skip := a3)] at h; exact h.1)
      val_bool
    simpa [ev0, ev1, ev2, ev3] using this
  refine hc.mono fun e W' ⟨he, bel⟩ => ?_
  subst he
  exact ⟨_, rfl, _, _, _, [], _, [], hW', trodAll_mk1 (shut_bool Try.underlying4 _),
    (trodAll_cons_mk (Below.trod laidOut (by kernel_rfl) (of_decide_eq_true (by kernel_rfl)) k0 bel lt0)
    (trodAll_cons_mk (Below.trod laidOut (by kernel_rfl) (of_decide_eq_true (by kernel_rfl)) k1 bel lt1)
    (trodAll_cons_mk (Below.trod laidOut (by kernel_rfl) (of_decide_eq_true (by kernel_rfl)) k2 bel lt2)
    (trodAll_cons_mk (shut_int Try.underlying3 w3) trodAll_mk0)))), rfl, bel.frame _, fun h => by cases h⟩
theorem over : Rows.fnExactJudgeRecordRow.holds Try.pinned (OpenSpec.ofChange Rows.fnExactJudgeRecordSpec) :=
  OpenClaim.holds_of_wide 3 Try.f3 rfl rfl rfl rfl rfl rfl rfl ⟨rfl, rfl, rfl, rfl, rfl⟩ rfl rfl rfl rfl rfl (by kernel_rfl) Try.func3 (by kernel_rfl)
    (of_decide_eq_true (by kernel_rfl)) (by unfold Func.isWrapper; first | (rw [if_pos (by decide +kernel)]; kernel_rfl) | (rw [if_neg (by decide +kernel)]; exact ⟨rfl, rfl⟩))
    (fun os started H enc _ => lifted os started H enc)
theorem fnExactJudgeRecord_holds : Rows.FnExactJudgeRecordSaid := over
#print axioms fnExactJudgeRecord_holds
end Go.Proofs.Ytbmkofeahjmkgac
end
