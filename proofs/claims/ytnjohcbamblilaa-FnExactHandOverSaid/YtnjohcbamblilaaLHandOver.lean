/-
  The law FnExactHandOver returns true for every input. No condition.
-/
import Derived.Test.YtnjohcbamblilaaWHandOver
import Derived.Test.YtnjohcbamblilaaFacts
namespace Go.Proofs.Ytnjohcbamblilaa
open Go.RowKit Go.ChangeShapes Go.WideShapes Go.ChangeAt Go.Deep Go.ChangeMaps
set_option linter.unusedVariables false
set_option linter.unusedSimpArgs false
set_option linter.unusedSectionVars false
set_option maxRecDepth 4000


namespace fnExactHandOver
set_option maxRecDepth 100000 in
theorem lifted (os : Os) (started : os.Started) (H : Type) (enc : TypeId × Value → H) :
    ReturnsInHanded {} Try.checked os 11 .any (Rows.fnExactHandOverSpec.pre6 enc Try.prog Try.f11 Rows.fnExactHandOverRow.domain false) (Rows.fnExactHandOverSpec.post enc Try.prog Try.f11 false true false false) := by
  refine returnsInHanded_of_change (C := Try.checked) own_ started (by kernel_rfl) Try.func11
    (ChangeSpec.witness6 (enc := enc) (C := Try.checked) false ⟨#[], #[.agg #[.string ⟨#[]⟩, .string ⟨#[]⟩, .int .i64 0, .int .i64 0, .slice none 0 0], .agg #[.int .i64 0, .string ⟨#[]⟩, .string ⟨#[]⟩, .int .i64 0]], []⟩ 8 (by kernel_rfl) (by kernel_rfl) (by kernel_rfl) (by kernel_rfl)) ?_
  intro W base args ds gs before hval0 hW _ _
  have hval : ∀ (j : Nat) t v, Try.f11.params[j]? = some t → args[j]? = some v → Value.okWide Try.prog W .any base t v := hval0
  have hW2 := hW
  obtain ⟨p, q, hA0, hV, rfl, hfz, hnd⟩ := hW
  have hA : DataW.TrodAll enc Try.prog W 0 (fun _ => true) true Try.f11.params.toList args.toList ds p := hA0
  rw [Try.params11] at hA hval
  obtain ⟨v0, vs0, d0, ds0, p0, q0, hargs, rfl, rfl, h0, tr0⟩ := trodAll_cons hA
  obtain ⟨v1, vs1, d1, ds1, p1, q1, rfl, rfl, rfl, h1, tr1⟩ := trodAll_cons tr0
  obtain ⟨rfl, rfl, rfl⟩ := trodAll_nil tr1
  obtain rfl : args = #[v0, v1] := by cases args; simp_all
  obtain ⟨rfl, rfl⟩ := trodVars_none hV
  clear hA0 hval0
  obtain ⟨ca0, rfl, _⟩ := okWide_struct Try.underlying43 (hval 0 43 v0 rfl rfl)
  obtain ⟨fuel0, hf0⟩ := h0
  obtain ⟨r0, hr0, p0_Chain, n0_Chain, c0_Chain, hc0, H0_Chain⟩ := open_Exhibit hf0
  obtain rfl : ca0 = #[.string r0.Code, .string r0.Found, .int .i64 r0.Day, .int .i64 r0.Seal, .slice p0_Chain n0_Chain c0_Chain] := by apply Array.toList_inj.1; simpa [Value.cells] using hc0
  obtain ⟨ca1, rfl, _⟩ := okWide_struct Try.underlying73 (hval 1 73 v1 rfl rfl)
  obtain ⟨fuel1, hf1⟩ := h1
  obtain ⟨r1, hc1, hr1⟩ := reads_Handing hf1
  obtain rfl : ca1 = (Handing.cells r1).toArray := by apply Array.toList_inj.1; simpa [Value.cells] using hc1
  refine Calls.mono (FnExactHandOver_ok W r0 _ _ _ H0_Chain hr0 r1 hr1) fun e W' he => ?_
  obtain ⟨v, he, hv, hx⟩ := he
  subst he; subst hv
  exact ⟨_, rfl, law_post (s := Rows.fnExactHandOverSpec) (fn := Try.f11) rfl rfl (by rw [Try.params11]; simp only [List.mem_cons, List.not_mem_nil, or_false]; intro t ht; (try rcases ht with ht | ht); all_goals (subst t; exact ⟨by kernel_rfl, of_decide_eq_true (by kernel_rfl)⟩)) Try.underlying4 hW2 rfl hx⟩
theorem proved : Rows.FnExactHandOverSaid :=
  OpenClaim.holds_of_wide 11 Try.f11 rfl rfl rfl rfl rfl rfl rfl ⟨rfl, rfl, rfl, rfl, rfl⟩ rfl rfl rfl rfl rfl (by kernel_rfl) Try.func11 (by unfold joinedFacts; exact (band (band (band (band (band (band (band (band (band (band (band (band (band (band (band (band (band (band (band (band (band (band (band (band (band (band (band (band (band (band (band (by kernel_rfl) ioLaid) ioRow) (by kernel_rfl)) (by kernel_rfl)) (by kernel_rfl)) (by kernel_rfl)) (by kernel_rfl)) (by kernel_rfl)) (by kernel_rfl)) (by kernel_rfl)) (by kernel_rfl)) (by kernel_rfl)) (by kernel_rfl)) (by kernel_rfl)) (by kernel_rfl)) (by kernel_rfl)) (by kernel_rfl)) (by kernel_rfl)) (by kernel_rfl)) (by kernel_rfl)) (by kernel_rfl)) (by kernel_rfl)) (by kernel_rfl)) (by kernel_rfl)) ioMk.1) (beq_false_of rfl ioMk.2.1)) (beq_make ioMk.2.2)) (by kernel_rfl)) (by kernel_rfl)) (by kernel_rfl)) (by kernel_rfl)))
    (of_decide_eq_true (by kernel_rfl)) (by unfold Func.isWrapper; first | (rw [if_pos (by decide +kernel)]; kernel_rfl) | (rw [if_neg (by decide +kernel)]; exact ⟨rfl, rfl⟩))
    (fun os started H enc _ => lifted os started H enc)
end fnExactHandOver

end Go.Proofs.Ytnjohcbamblilaa
