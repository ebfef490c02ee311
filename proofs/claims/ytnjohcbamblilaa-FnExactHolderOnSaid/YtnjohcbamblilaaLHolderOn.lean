/-
  The law FnExactHolderOn returns true for every input. No condition.
-/
import Derived.Test.YtnjohcbamblilaaWHolderOn
namespace Go.Proofs.Ytnjohcbamblilaa
open Go.RowKit Go.ChangeShapes Go.WideShapes Go.ChangeAt Go.Deep Go.ChangeMaps
set_option linter.unusedVariables false
set_option linter.unusedSimpArgs false
set_option linter.unusedSectionVars false
set_option maxRecDepth 4000


namespace fnExactHolderOn
set_option maxRecDepth 100000 in
theorem lifted (os : Os) (started : os.Started) (H : Type) (enc : TypeId × Value → H) :
    ReturnsInHanded {} Try.checked os 6 .any (Rows.fnExactHolderOnSpec.pre6 enc Try.prog Try.f6 Rows.fnExactHolderOnRow.domain false) (Rows.fnExactHolderOnSpec.post enc Try.prog Try.f6 false true false false) := by
  refine returnsInHanded_of_change (C := Try.checked) own_ started (by kernel_rfl) Try.func6
    (ChangeSpec.witness6 (enc := enc) (C := Try.checked) false ⟨#[], #[.agg #[.string ⟨#[]⟩, .string ⟨#[]⟩, .int .i64 0, .int .i64 0, .slice none 0 0], .int .i64 0], []⟩ 8 (by kernel_rfl) (by kernel_rfl) (by kernel_rfl) (by kernel_rfl)) ?_
  intro W base args ds gs before hval0 hW _ _
  have hval : ∀ (j : Nat) t v, Try.f6.params[j]? = some t → args[j]? = some v → Value.okWide Try.prog W .any base t v := hval0
  have hW2 := hW
  obtain ⟨p, q, hA0, hV, rfl, hfz, hnd⟩ := hW
  have hA : DataW.TrodAll enc Try.prog W 0 (fun _ => true) true Try.f6.params.toList args.toList ds p := hA0
  rw [Try.params6] at hA hval
  obtain ⟨v0, vs0, d0, ds0, p0, q0, hargs, rfl, rfl, h0, tr0⟩ := trodAll_cons hA
  obtain ⟨v1, vs1, d1, ds1, p1, q1, rfl, rfl, rfl, h1, tr1⟩ := trodAll_cons tr0
  obtain ⟨rfl, rfl, rfl⟩ := trodAll_nil tr1
  obtain rfl : args = #[v0, v1] := by cases args; simp_all
  obtain ⟨rfl, rfl⟩ := trodVars_none hV
  clear hA0 hval0
  obtain ⟨ca0, rfl, _⟩ := okWide_struct Try.underlying43 (hval 0 43 v0 rfl rfl)
  obtain ⟨fuel0, hf0⟩ := h0
  obtain ⟨r0, hr0, p0_Chain, n0_Chain, c0_Chain, hc0, H0_Chain⟩ := open_Exhibit hf0
  obtain rfl : ca0 = #[.string r0.Code, .string r0.Found, .int .i64 r0.Day, .int .i64 r0.Seal, .slice p0_Chain n0_Chain c0_Chain] := by apply Array.toList_inj.1; simpa [Value.cells] using hc0
  obtain ⟨k1, rfl, rfl, rfl, w1_⟩ := open_int Try.underlying2 (hval 1 2 v1 rfl rfl) h1
  have wk1 : I64 k1 := wf64 w1_
  refine Calls.mono (FnExactHolderOn_ok W r0 _ _ _ H0_Chain hr0 k1 wk1) fun e W' he => ?_
  obtain ⟨v, he, hv, hx⟩ := he
  subst he; subst hv
  exact ⟨_, rfl, law_post (s := Rows.fnExactHolderOnSpec) (fn := Try.f6) rfl rfl (by rw [Try.params6]; simp only [List.mem_cons, List.not_mem_nil, or_false]; intro t ht; (try rcases ht with ht | ht); all_goals (subst t; exact ⟨by kernel_rfl, of_decide_eq_true (by kernel_rfl)⟩)) Try.underlying4 hW2 rfl hx⟩
theorem proved : Rows.FnExactHolderOnSaid :=
  OpenClaim.holds_of_wide 6 Try.f6 rfl rfl rfl rfl rfl rfl rfl ⟨rfl, rfl, rfl, rfl, rfl⟩ rfl rfl rfl rfl rfl (by kernel_rfl) Try.func6 (by kernel_rfl)
    (of_decide_eq_true (by kernel_rfl)) (by unfold Func.isWrapper; first | (rw [if_pos (by decide +kernel)]; kernel_rfl) | (rw [if_neg (by decide +kernel)]; exact ⟨rfl, rfl⟩))
    (fun os started H enc _ => lifted os started H enc)
end fnExactHolderOn

end Go.Proofs.Ytnjohcbamblilaa
