/-
  The law FnExactAreRulings returns true for every input. No condition.
-/
import Derived.Test.YtnjohcbamblilaaRulRead
namespace Go.Proofs.Ytnjohcbamblilaa
open Go.RowKit Go.ChangeShapes Go.WideShapes Go.ChangeAt Go.Deep
set_option linter.unusedVariables false
set_option linter.unusedSimpArgs false
set_option linter.unusedSectionVars false
set_option maxRecDepth 4000

set_option maxHeartbeats 400000 in
theorem FnExactAreRulings_ok (p : Option Addr) (n c : Nat) (xs : List Ruling) (w : World) (H : Sl Ruling.cells 3 w p n c xs) (hx : ∀ x ∈ xs, x.ok) : Ret Try.prog 3 [.slice p n c] w (Pv w (.bool true)) := by
  refine ret_of_run (N := 27) Try.func3 rfl rfl rfl ?_
  have hc := fun x (h : x ∈ xs) => (hx x h).2.1
  have hn := H.len
  have E : Ext w w := Ext.refl w
  refine run_seq ?_
  refine run_region ?_
  refine ov (xassign rfl) rfl rfl rfl ?_
  refine ops_nil ?_
  refine run_seq ?_
  refine run_region ?_
  refine ov (xassign rfl) rfl rfl rfl ?_
  refine ops_nil ?_
  refine run_seq ?_
  refine run_region ?_
  refine ov (xmove rfl) rfl rfl rfl ?_
  refine ov (xmove rfl) rfl rfl rfl ?_
  refine oc (xcall Try.call18 rfl) rfl rfl rfl (szRulingS_ok p n c xs 1048576 _ (H) hx (by omega) (by omega)) ?_
  rintro _ w1 ⟨rfl, e1⟩
  have z1 := e1.size
  have E := E.trans e1
  refine ov (xassign rfl) rfl rfl rfl ?_
  refine ops_nil ?_
  refine run_seq ?_
  refine run_seq ?_
  refine run_region ?_
  refine ov (xmove rfl) rfl rfl rfl ?_
  refine ov (xlss rfl rfl _ rfl) rfl rfl rfl ?_
  refine ods (fun c11 => ?_) (fun c11 => ?_)
  ·
    refine ops_nil ?_
    refine run_cond_t rfl ?_
    refine run_seq ?_
    refine run_region ?_
    refine ov (xassign rfl) rfl rfl rfl ?_
    refine ops_nil ?_
    refine run_ret Try.func3 (res1 rfl rfl) ?_
    exact ⟨_, rfl, pv E⟩
  ·
    have hz := szS_len szRuling_le (by omega : 0 ≤ szS szRuling xs 1048576)
    refine ops_nil ?_
    refine run_cond_f rfl ?_
    refine run_skip ?_
    refine run_seq ?_
    refine run_region ?_
    refine ov (xmove rfl) rfl rfl rfl ?_
    refine oc (xcall Try.call20 rfl) rfl rfl rfl (toRulingS_ok _ _ _ _ _ (H.ext E) (by omega)) ?_
    rintro _ w2 ⟨e2, q13, rfl, G13⟩
    have z2 := e2.size
    have E := E.trans e2
    refine oc (xcall Try.call19 rfl) rfl rfl rfl (sAreRulings_ok _ _ _ _ _ G13.sl hc) ?_
    rintro _ w3 ⟨rfl, e3⟩
    have z3 := e3.size
    have E := E.trans e3
    replace G13 := G13.ext e3
    refine ov (xassign rfl) rfl rfl rfl ?_
    refine ops_nil ?_
    refine run_seq ?_
    refine run_region ?_
    refine ov (xmove rfl) rfl rfl rfl ?_
    refine oc (xcall Try.call20 rfl) rfl rfl rfl (toRulingS_ok _ _ _ _ _ (H.ext E) (by omega)) ?_
    rintro _ w4 ⟨e4, q16, rfl, G16⟩
    have z4 := e4.size
    have E := E.trans e4
    replace G13 := G13.ext e4
    refine ov (xassign rfl) rfl rfl rfl ?_
    refine ops_nil ?_
    refine run_seq ?_
    refine run_region ?_
    refine ov (xmove rfl) rfl rfl rfl ?_
    refine oc (xcall Try.call21 rfl) rfl rfl rfl (AreRulings_ok _ _ _ _ _ G16.sl hc) ?_
    rintro _ w5 ⟨rfl, e5⟩
    have z5 := e5.size
    have E := E.trans e5
    replace G13 := G13.ext e5
    replace G16 := G16.ext e5
    refine ov (xassign rfl) rfl rfl rfl ?_
    refine ops_nil ?_
    refine run_seq ?_
    refine run_seq ?_
    refine run_region ?_
    refine ov (xmove rfl) rfl rfl rfl ?_
    refine ov (xmove rfl) rfl rfl rfl ?_
    refine ov (xbneq Try.underlying4 rfl rfl) rfl rfl rfl ?_
    refine ods (fun c21 => ?_) (fun c21 => ?_)
    · exfalso; exact c21 rfl
    ·
      refine ops_nil ?_
      refine run_cond_f rfl ?_
      refine run_skip ?_
      refine run_seq ?_
      refine run_seq ?_
      refine run_region ?_
      refine ov (xmove rfl) rfl rfl rfl ?_
      refine ov (xmove rfl) rfl rfl rfl ?_
      refine oc (xcall Try.call20 rfl) rfl rfl rfl (toRulingS_ok _ _ _ _ _ (H.ext E) (by omega)) ?_
      rintro _ w6 ⟨e6, q24, rfl, G24⟩
      have z6 := e6.size
      have E := E.trans e6
      replace G13 := G13.ext e6
      replace G16 := G16.ext e6
      refine oc (xcall Try.call22 rfl) rfl rfl rfl (eqRulingS_ok _ _ _ _ _ _ _ _ _ G16.sl G24.sl) ?_
      rintro _ w7 ⟨rfl, e7⟩
      have z7 := e7.size
      have E := E.trans e7
      replace G13 := G13.ext e7
      replace G16 := G16.ext e7
      replace G24 := G24.ext e7
      refine obs (fun c25 => ?_) (fun c25 => ?_)
      ·
        refine ov (xnot rfl) rfl rfl rfl ?_
        refine ops_nil ?_
        refine run_cond_f rfl ?_
        refine run_skip ?_
        refine run_seq ?_
        refine run_region ?_
        refine ov (xassign rfl) rfl rfl rfl ?_
        refine ops_nil ?_
        refine run_ret Try.func3 (res1 rfl rfl) ?_
        exact ⟨_, rfl, pv E⟩
      · exfalso; rw [eqL_refl eqRuling_refl] at c25; cases c25


namespace fnExactAreRulings
set_option maxRecDepth 100000 in
theorem lifted (os : Os) (started : os.Started) (H : Type) (enc : TypeId × Value → H) :
    ReturnsInHanded {} Try.checked os 3 .any (Rows.fnExactAreRulingsSpec.pre6 enc Try.prog Try.f3 Rows.fnExactAreRulingsRow.domain false) (Rows.fnExactAreRulingsSpec.post enc Try.prog Try.f3 false true false false) := by
  refine returnsInHanded_of_change (C := Try.checked) own_ started (by kernel_rfl) Try.func3
    (ChangeSpec.witness6 (enc := enc) (C := Try.checked) false ⟨#[], #[.slice none 0 0], []⟩ 8 (by kernel_rfl) (by kernel_rfl) (by kernel_rfl) (by kernel_rfl)) ?_
  intro W base args ds gs before hval0 hW _ _
  have hval : ∀ (j : Nat) t v, Try.f3.params[j]? = some t → args[j]? = some v → Value.okWide Try.prog W .any base t v := hval0
  have hW2 := hW
  obtain ⟨p, q, hA0, hV, rfl, hfz, hnd⟩ := hW
  have hA : DataW.TrodAll enc Try.prog W 0 (fun _ => true) true Try.f3.params.toList args.toList ds p := hA0
  rw [Try.params3] at hA hval
  obtain ⟨v0, vs0, d0, ds0, p0, q0, hargs, rfl, rfl, h0, r0⟩ := trodAll_cons hA
  obtain ⟨rfl, rfl, rfl⟩ := trodAll_nil r0
  obtain rfl : args = #[v0] := by cases args; simp_all
  obtain ⟨rfl, rfl⟩ := trodVars_none hV
  clear hA0 hval0
  obtain ⟨a0, l0, c0, rfl⟩ := okWide_slice Try.underlying22 (hval 0 22 v0 rfl rfl)
  obtain ⟨fuel0, hf0⟩ := h0
  obtain ⟨pp0, nn0, cc0, xs0, hcs0, H0, hx0⟩ := sl_of_trod (sz := 3) Try.underlying22 (by kernel_rfl) (by decide) reads_Ruling hf0
  simp only [Value.cells, List.cons.injEq, Value.slice.injEq, and_true] at hcs0
  obtain ⟨rfl, rfl, rfl⟩ := hcs0
  refine Calls.mono (FnExactAreRulings_ok _ _ _ _ W H0 hx0) fun e W' he => ?_
  obtain ⟨v, he, hv, hx⟩ := he
  subst he; subst hv
  exact ⟨_, rfl, law_post (s := Rows.fnExactAreRulingsSpec) (fn := Try.f3) rfl rfl (by rw [Try.params3]; simp only [List.mem_cons, List.not_mem_nil, or_false]; intro t ht; (try rcases ht with ht); all_goals (subst t; exact ⟨by kernel_rfl, of_decide_eq_true (by kernel_rfl)⟩)) Try.underlying4 hW2 rfl hx⟩
theorem proved : Rows.FnExactAreRulingsSaid :=
  OpenClaim.holds_of_wide 3 Try.f3 rfl rfl rfl rfl rfl rfl rfl ⟨rfl, rfl, rfl, rfl, rfl⟩ rfl rfl rfl rfl rfl (by kernel_rfl) Try.func3 (by kernel_rfl)
    (of_decide_eq_true (by kernel_rfl)) (by unfold Func.isWrapper; first | (rw [if_pos (by decide +kernel)]; kernel_rfl) | (rw [if_neg (by decide +kernel)]; exact ⟨rfl, rfl⟩))
    (fun os started H enc _ => lifted os started H enc)
end fnExactAreRulings

end Go.Proofs.Ytnjohcbamblilaa
