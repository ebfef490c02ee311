/-
  The law FnExactFillTemplate returns true for every input. No condition.
-/
import Derived.Test.YtgbedilaiefcbaaWFillTemplate
import Derived.Test.YtgbedilaiefcbaaFacts
import Derived.Test.YtgbedilaiefcbaaHmOf
import Derived.Test.YtgbedilaiefcbaaValRead
import Derived.Test.YtgbedilaiefcbaaPrimRead
import Derived.HandedShaped
namespace Go.Proofs.Ytgbedilaiefcbaa
open Go.RowKit Go.ChangeShapes Go.WideShapes Go.ChangeAt Go.Deep Go.ChangeMaps
set_option linter.unusedVariables false
set_option linter.unusedSimpArgs false
set_option linter.unusedSectionVars false
set_option maxRecDepth 4000


namespace fnExactFillTemplate
set_option maxRecDepth 100000 in
theorem lifted (os : Os) (started : os.Started) (H : Type) (enc : TypeId × Value → H) :
    ReturnsInHanded {} Try.checked os 10 .any (Rows.fnExactFillTemplateSpec.pre6 enc Try.prog Try.f10 Rows.fnExactFillTemplateRow.domain false) (Rows.fnExactFillTemplateSpec.post enc Try.prog Try.f10 false true false false) := by
  refine returnsInHanded_of_change_shaped (C := Try.checked) own_ started (by kernel_rfl) Try.func10
    (ChangeSpec.witness6 (enc := enc) (C := Try.checked) false ⟨#[], #[.string ⟨#[]⟩, .slice none 0 0], []⟩ 8 (by kernel_rfl) (by kernel_rfl) (by kernel_rfl) (by kernel_rfl)) ?_
  intro W base args ds gs before hval0 hW _ _ hsh _
  have hval : ∀ (j : Nat) t v, Try.f10.params[j]? = some t → args[j]? = some v → Value.okWide Try.prog W .any base t v := hval0
  have hW2 := hW
  obtain ⟨p, q, hA0, hV, rfl, hfz, hnd⟩ := hW
  have hA : DataW.TrodAll enc Try.prog W 0 (fun _ => true) true Try.f10.params.toList args.toList ds p := hA0
  rw [Try.params10] at hA hval
  obtain ⟨v0, vs0, d0, ds0, p0, q0, hargs, rfl, rfl, h0, tr0⟩ := trodAll_cons hA
  obtain ⟨v1, vs1, d1, ds1, p1, q1, rfl, rfl, rfl, h1, tr1⟩ := trodAll_cons tr0
  obtain ⟨rfl, rfl, rfl⟩ := trodAll_nil tr1
  obtain rfl : args = #[v0, v1] := by cases args; simp_all
  obtain ⟨rfl, rfl⟩ := trodVars_none hV
  clear hA0 hval0
  obtain ⟨s0, rfl, rfl, rfl, w0_⟩ := open_string Try.underlying9 (hval 0 9 v0 rfl rfl) h0
  have ws0 : s0.size ≤ 9223372036854775807 := by unfold maxLen at w0_; omega
  obtain ⟨a1, l1, c1, rfl⟩ := okWide_slice Try.underlying22 (hval 1 22 v1 rfl rfl)
  obtain ⟨fuel1, hf1⟩ := h1
  obtain ⟨pp1, nn1, cc1, xs1, hcs1, H1, hx1⟩ := sl_of_trod (sz := 2) Try.underlying22 (by kernel_rfl) (by decide) reads_Val hf1
  simp only [Value.cells, List.cons.injEq, Value.slice.injEq, and_true] at hcs1
  obtain ⟨rfl, rfl, rfl⟩ := hcs1
  refine Calls.mono (FnExactFillTemplate_ok W s0 ws0 _ _ _ xs1 H1 hx1 (hm_of W hsh)) fun e W' he => ?_
  obtain ⟨v, he, hv, hx⟩ := he
  subst he; subst hv
  exact ⟨_, rfl, law_post (s := Rows.fnExactFillTemplateSpec) (fn := Try.f10) rfl rfl (by rw [Try.params10]; simp only [List.mem_cons, List.not_mem_nil, or_false]; intro t ht; (try rcases ht with ht | ht); all_goals (subst t; exact ⟨by kernel_rfl, of_decide_eq_true (by kernel_rfl)⟩)) Try.underlying4 hW2 rfl hx⟩
theorem proved : Rows.FnExactFillTemplateSaid :=
  OpenClaim.holds_of_wide 10 Try.f10 rfl rfl rfl rfl rfl rfl rfl ⟨rfl, rfl, rfl, rfl, rfl⟩ rfl rfl rfl rfl rfl (by kernel_rfl) Try.func10 (by unfold joinedFacts; exact (band (band (band (band (band (band (band (band (band (band (band (band (band (band (band (band (band (band (band (band (band (band (band (band (band (band (band (band (band (band (band (by kernel_rfl) ioLaid) ioRow) (by kernel_rfl)) (by kernel_rfl)) (by kernel_rfl)) (by kernel_rfl)) (by kernel_rfl)) (by kernel_rfl)) (by kernel_rfl)) (by kernel_rfl)) (by kernel_rfl)) (by kernel_rfl)) (by kernel_rfl)) (by kernel_rfl)) (by kernel_rfl)) (by kernel_rfl)) (by kernel_rfl)) (by kernel_rfl)) (by kernel_rfl)) (by kernel_rfl)) (by kernel_rfl)) (by kernel_rfl)) (by kernel_rfl)) (by kernel_rfl)) ioMk.1) (beq_false_of rfl ioMk.2.1)) (beq_make ioMk.2.2)) (by kernel_rfl)) (by kernel_rfl)) (by kernel_rfl)) (by kernel_rfl)))
    (of_decide_eq_true (by kernel_rfl)) (by unfold Func.isWrapper; first | (rw [if_pos (by decide +kernel)]; kernel_rfl) | (rw [if_neg (by decide +kernel)]; exact ⟨rfl, rfl⟩))
    (fun os started H enc _ => lifted os started H enc)
end fnExactFillTemplate

end Go.Proofs.Ytgbedilaiefcbaa
