/-
  Holders and days held. No condition beyond those written in each theorem.
-/
import Derived.Test.YtnjohcbamblilaaExh
namespace Go.Proofs.Ytnjohcbamblilaa
open Go.RowKit
set_option linter.unusedVariables false
set_option linter.unusedSimpArgs false
set_option linter.unusedSectionVars false
set_option maxRecDepth 4000

set_option maxHeartbeats 400000 in
theorem HolderOn_ok (p : Option Addr) (n c : Nat) (x : Exhibit) (w : World) (H : Sl Handing.cells 4 w p n c x.Chain) (hx : exSmall x) (day : Int) : Ret Try.prog 34 [.agg #[.string x.Code, .string x.Found, .int .i64 x.Day, .int .i64 x.Seal, .slice p n c], .int .i64 day] w (Pv w (.tuple #[.string (holderOn x day).1, .int .i64 (holderOn x day).2])) := by
  refine ret_of_run (N := 32) Try.func34 rfl rfl rfl ?_
  have hn := H.len
  have hn6 := H.n64
  have hp := past_le x day
  have hb := brk_le x
  have hz := brkZ_or x
  have E : Ext w w := Ext.refl w
  refine run_seq ?_
  refine run_region ?_
  refine obox rfl rfl rfl ?_
  intro b1 w1 e1 hb1 hz1 O1
  have E := E.trans e1
  replace O1 : Own w1 b1 [.string x.Code, .string x.Found, .int .i64 x.Day, .int .i64 x.Seal, .slice p n c] 49 := O1
  refine ov (xassign rfl) rfl rfl rfl ?_
  refine ov (xassign rfl) rfl rfl rfl ?_
  refine ops_nil ?_
  refine run_seq ?_
  refine run_block ?_
  refine run_seq ?_
  refine run_region ?_
  refine ov (v := .agg #[.string x.Code, .string x.Found, .int .i64 x.Day, .int .i64 x.Seal, .slice p n c]) (xloadN Try.isAgg49 Try.sizeOf49 rfl (O1.cells) rfl) rfl rfl rfl ?_
  refine oc (xcall Try.call66 rfl) rfl rfl rfl (IsExhibit_ok _ _ _ _ _ (H.ext E) (by assumption)) ?_
  rintro _ w2 ⟨rfl, e2⟩
  have z2 := e2.size
  have E := E.trans e2
  replace O1 := O1.ext e2
  refine obs (fun c8 => ?_) (fun c8 => ?_)
  ·
    refine ov (xnot rfl) rfl rfl rfl ?_
    refine ov (xassign rfl) rfl rfl rfl ?_
    refine ops_nil ?_
    refine run_cond_f rfl ?_
    refine run_seq ?_
    refine run_region ?_
    refine ov (xmove rfl) rfl rfl rfl ?_
    refine oc (xcall Try.call96 rfl) rfl rfl rfl (isDay_ok (day) _) ?_
    rintro _ w_ ⟨rfl, hw_⟩
    replace hw_ := hw_.symm
    subst hw_
    refine obs (fun c12 => ?_) (fun c12 => ?_)
    ·
      refine ov (xnot rfl) rfl rfl rfl ?_
      refine ov (xassign rfl) rfl rfl rfl ?_
      refine ops_nil ?_
      refine run_cond_f rfl ?_
      refine run_seq ?_
      refine run_draw (by kernel_rfl) (by kernel_rfl) ?_
      refine qv (fun w' x_ => xmove rfl) rfl rfl rfl ?_
      refine qv (fun w' x_ => xfieldAddr fo49f2 rfl) rfl rfl rfl ?_
      refine qv (v := .int .i64 x.Day) (fun w' x_ => xload1 Try.isAgg2 rfl ((O1.cells).ext x_) rfl) rfl rfl rfl ?_
      refine qv (fun w' x_ => xlss rfl rfl _ rfl) rfl rfl rfl ?_
      refine qds (fun c18 => ?_) (fun c18 => ?_)
      ·
        refine qv (fun w' x_ => xmove rfl) rfl rfl rfl ?_
        refine qg rfl rfl rfl ?_
        refine qg rfl rfl rfl ?_
        refine qg rfl rfl rfl ?_
        refine qg rfl rfl rfl ?_
        refine qg rfl rfl rfl ?_
        refine qg rfl rfl rfl ?_
        refine qv (fun w' x_ => xpick_t rfl rfl) rfl rfl rfl ?_
        refine qv (fun w' x_ => xassign rfl) rfl rfl rfl ?_
        refine q_nil ?_
        intro w3 e3
        have z3 := e3.size
        have E := E.trans e3
        replace O1 := O1.ext e3
        refine run_cond_t rfl ?_
        refine run_seq ?_
        refine run_region ?_
        refine ov (xassign rfl) rfl rfl rfl ?_
        refine ov (xassign rfl) rfl rfl rfl ?_
        refine ops_nil ?_
        refine run_ret Try.func34 (res2 rfl rfl rfl) ?_
        have he : holderOn x day = (⟨#[]⟩, 5) := by unfold holderOn; (repeat' split) <;> first | rfl | (exfalso; omega) | (exfalso; simp_all; done)
        exact ⟨_, rfl, by rw [he], E⟩
      ·
        refine qv (fun w' x_ => xmove rfl) rfl rfl rfl ?_
        refine qv (v := .agg #[.string x.Code, .string x.Found, .int .i64 x.Day, .int .i64 x.Seal, .slice p n c]) (fun w' x_ => xloadN Try.isAgg49 Try.sizeOf49 rfl ((O1.cells).ext x_) rfl) rfl rfl rfl ?_
        have t21 := fun (w' : World) (x_ : Ext w2 w') => Ret.q (w := w') (firstBreak_ok _ _ _ _ _ ((H.ext E).ext x_))
        refine qc (fun w' => xcall Try.call105 rfl) rfl rfl rfl t21 ?_
        clear t21
        refine qv (v := .agg #[.string x.Code, .string x.Found, .int .i64 x.Day, .int .i64 x.Seal, .slice p n c]) (fun w' x_ => xloadN Try.isAgg49 Try.sizeOf49 rfl ((O1.cells).ext x_) rfl) rfl rfl rfl ?_
        refine qv (fun w' x_ => xmove rfl) rfl rfl rfl ?_
        have t24 := fun (w' : World) (x_ : Ext w2 w') => Ret.q (w := w') (past_ok _ _ _ _ _ ((H.ext E).ext x_) (day))
        refine qc (fun w' => xcall Try.call106 rfl) rfl rfl rfl t24 ?_
        clear t24
        refine qv (fun w' x_ => xlss rfl rfl _ rfl) rfl rfl rfl ?_
        refine qds (fun c25 => ?_) (fun c25 => ?_)
        ·
          refine qv (fun w' x_ => xpick_f rfl rfl) rfl rfl rfl ?_
          refine qv (fun w' x_ => xassign rfl) rfl rfl rfl ?_
          refine q_nil ?_
          intro w3 e3
          have z3 := e3.size
          have E := E.trans e3
          replace O1 := O1.ext e3
          refine run_cond_t rfl ?_
          refine run_seq ?_
          refine run_region ?_
          refine ov (xassign rfl) rfl rfl rfl ?_
          refine ov (xassign rfl) rfl rfl rfl ?_
          refine ops_nil ?_
          refine run_ret Try.func34 (res2 rfl rfl rfl) ?_
          have he : holderOn x day = (⟨#[]⟩, 5) := by unfold holderOn; (repeat' split) <;> first | rfl | (exfalso; omega) | (exfalso; simp_all; done)
          exact ⟨_, rfl, by rw [he], E⟩
        ·
          refine qv (fun w' x_ => xpick_f rfl rfl) rfl rfl rfl ?_
          refine qv (fun w' x_ => xassign rfl) rfl rfl rfl ?_
          refine q_nil ?_
          intro w3 e3
          have z3 := e3.size
          have E := E.trans e3
          replace O1 := O1.ext e3
          refine run_cond_f rfl ?_
          refine run_skip ?_
          refine run_inBlock ?_
          refine run_seq ?_
          refine run_draw (by kernel_rfl) (by kernel_rfl) ?_
          refine qv (v := .agg #[.string x.Code, .string x.Found, .int .i64 x.Day, .int .i64 x.Seal, .slice p n c]) (fun w' x_ => xloadN Try.isAgg49 Try.sizeOf49 rfl ((O1.cells).ext x_) rfl) rfl rfl rfl ?_
          refine qv (v := .agg #[.string x.Code, .string x.Found, .int .i64 x.Day, .int .i64 x.Seal, .slice p n c]) (fun w' x_ => xloadN Try.isAgg49 Try.sizeOf49 rfl ((O1.cells).ext x_) rfl) rfl rfl rfl ?_
          refine qv (fun w' x_ => xmove rfl) rfl rfl rfl ?_
          have t30 := fun (w' : World) (x_ : Ext w3 w') => Ret.q (w := w') (past_ok _ _ _ _ _ ((H.ext E).ext x_) (day))
          refine qc (fun w' => xcall Try.call106 rfl) rfl rfl rfl t30 ?_
          clear t30
          have t31 := fun (w' : World) (x_ : Ext w3 w') => Ret.q (w := w') (holder_ok _ _ _ _ _ ((H.ext E).ext x_) (past x day) (by omega))
          refine qc (fun w' => xcall Try.call107 rfl) rfl rfl rfl t31 ?_
          clear t31
          refine qv (fun w' x_ => xassign rfl) rfl rfl rfl ?_
          refine qv (fun w' x_ => xassign rfl) rfl rfl rfl ?_
          refine q_nil ?_
          intro w4 e4
          have z4 := e4.size
          have E := E.trans e4
          replace O1 := O1.ext e4
          refine run_ret Try.func34 (res2 rfl rfl rfl) ?_
          have he : holderOn x day = ((hold x (past x day)), 0) := by unfold holderOn; (repeat' split) <;> first | rfl | (exfalso; omega) | (exfalso; simp_all; done)
          exact ⟨_, rfl, by rw [he], E⟩
    ·
      refine ov (xnot rfl) rfl rfl rfl ?_
      refine ov (xassign rfl) rfl rfl rfl ?_
      refine ops_nil ?_
      refine run_cond_t rfl ?_
      refine run_seq ?_
      refine run_region ?_
      refine ov (xassign rfl) rfl rfl rfl ?_
      refine ov (xassign rfl) rfl rfl rfl ?_
      refine ops_nil ?_
      refine run_ret Try.func34 (res2 rfl rfl rfl) ?_
      have he : holderOn x day = (⟨#[]⟩, 2) := by unfold holderOn; (repeat' split) <;> first | rfl | (exfalso; omega) | (exfalso; simp_all; done)
      exact ⟨_, rfl, by rw [he], E⟩
  ·
    refine ov (xnot rfl) rfl rfl rfl ?_
    refine ov (xassign rfl) rfl rfl rfl ?_
    refine ops_nil ?_
    refine run_cond_t rfl ?_
    refine run_seq ?_
    refine run_region ?_
    refine ov (xassign rfl) rfl rfl rfl ?_
    refine ov (xassign rfl) rfl rfl rfl ?_
    refine ops_nil ?_
    refine run_ret Try.func34 (res2 rfl rfl rfl) ?_
    have he : holderOn x day = (⟨#[]⟩, 1) := by unfold holderOn; (repeat' split) <;> first | rfl | (exfalso; omega) | (exfalso; simp_all; done)
    exact ⟨_, rfl, by rw [he], E⟩

set_option maxHeartbeats 400000 in
theorem sHolderOn_ok (p : Option Addr) (n c : Nat) (x : Exhibit) (w : World) (H : Sl Handing.cells 4 w p n c x.Chain) (hx : exSmall x) (day : Int) : Ret Try.prog 32 [.agg #[.string x.Code, .string x.Found, .int .i64 x.Day, .int .i64 x.Seal, .slice p n c], .int .i64 day] w (Pv w (.tuple #[.string (holderOn x day).1, .int .i64 (holderOn x day).2])) := by
  refine ret_of_run (N := 37) Try.func32 rfl rfl rfl ?_
  have hn := H.len
  have hn6 := H.n64
  have hp := past_le x day
  have hb := brk_le x
  have hz := brkZ_or x
  have E : Ext w w := Ext.refl w
  refine run_seq ?_
  refine run_region ?_
  refine obox rfl rfl rfl ?_
  intro b1 w1 e1 hb1 hz1 O1
  have E := E.trans e1
  replace O1 : Own w1 b1 [.string x.Code, .string x.Found, .int .i64 x.Day, .int .i64 x.Seal, .slice p n c] 49 := O1
  refine ov (xassign rfl) rfl rfl rfl ?_
  refine ov (xassign rfl) rfl rfl rfl ?_
  refine ops_nil ?_
  refine run_seq ?_
  refine run_seq ?_
  refine run_region ?_
  refine ov (v := .agg #[.string x.Code, .string x.Found, .int .i64 x.Day, .int .i64 x.Seal, .slice p n c]) (xloadN Try.isAgg49 Try.sizeOf49 rfl (O1.cells) rfl) rfl rfl rfl ?_
  refine oc (xcall Try.call101 rfl) rfl rfl rfl (sIsExhibit_ok _ _ _ _ _ (H.ext E) (by assumption)) ?_
  rintro _ w2 ⟨rfl, e2⟩
  have z2 := e2.size
  have E := E.trans e2
  replace O1 := O1.ext e2
  refine obs (fun c10 => ?_) (fun c10 => ?_)
  ·
    refine ov (xnot rfl) rfl rfl rfl ?_
    refine ops_nil ?_
    refine run_cond_f rfl ?_
    refine run_skip ?_
    refine run_seq ?_
    refine run_seq ?_
    refine run_region ?_
    refine ov (xmove rfl) rfl rfl rfl ?_
    refine oc (xcall Try.call93 rfl) rfl rfl rfl (l02Is_ok (day) _) ?_
    rintro _ w_ ⟨rfl, hw_⟩
    replace hw_ := hw_.symm
    subst hw_
    refine obs (fun c13 => ?_) (fun c13 => ?_)
    ·
      refine ov (xnot rfl) rfl rfl rfl ?_
      refine ops_nil ?_
      refine run_cond_f rfl ?_
      refine run_skip ?_
      refine run_seq ?_
      refine run_region ?_
      refine ov (v := .agg #[.string x.Code, .string x.Found, .int .i64 x.Day, .int .i64 x.Seal, .slice p n c]) (xloadN Try.isAgg49 Try.sizeOf49 rfl (O1.cells) rfl) rfl rfl rfl ?_
      refine ov (xmove rfl) rfl rfl rfl ?_
      refine oc (xcall Try.call102 rfl) rfl rfl rfl (l23Holder_ok _ _ _ _ _ (H.ext E) (day)) ?_
      rintro _ w3 ⟨rfl, e3⟩
      have z3 := e3.size
      have E := E.trans e3
      replace O1 := O1.ext e3
      refine ov (xmove rfl) rfl rfl rfl ?_
      refine ov (xextract rfl rfl) rfl rfl rfl ?_
      refine ov (xextract rfl rfl) rfl rfl rfl ?_
      refine ov (xassign rfl) rfl rfl rfl ?_
      refine ov (xassign rfl) rfl rfl rfl ?_
      refine ops_nil ?_
      refine run_seq ?_
      refine run_region ?_
      refine ov (v := .agg #[.string x.Code, .string x.Found, .int .i64 x.Day, .int .i64 x.Seal, .slice p n c]) (xloadN Try.isAgg49 Try.sizeOf49 rfl (O1.cells) rfl) rfl rfl rfl ?_
      refine oc (xcall Try.call103 rfl) rfl rfl rfl (l23Break_ok _ _ _ _ _ (H.ext E)) ?_
      rintro _ w4 ⟨rfl, e4⟩
      have z4 := e4.size
      have E := E.trans e4
      replace O1 := O1.ext e4
      refine ov (xassign rfl) rfl rfl rfl ?_
      refine ops_nil ?_
      refine run_seq ?_
      refine run_seq ?_
      refine run_region ?_
      refine ov (xmove rfl) rfl rfl rfl ?_
      refine ov (xfieldAddr fo49f2 rfl) rfl rfl rfl ?_
      refine ov (v := .int .i64 x.Day) (xload1 Try.isAgg2 rfl (O1.cells) rfl) rfl rfl rfl ?_
      refine ov (xlss rfl rfl _ rfl) rfl rfl rfl ?_
      refine ods (fun c26 => ?_) (fun c26 => ?_)
      ·
        refine ov (xmove rfl) rfl rfl rfl ?_
        refine og rfl rfl rfl ?_
        refine og rfl rfl rfl ?_
        refine og rfl rfl rfl ?_
        refine og rfl rfl rfl ?_
        refine og rfl rfl rfl ?_
        refine og rfl rfl rfl ?_
        refine og rfl rfl rfl ?_
        refine ov (xpick_t rfl rfl) rfl rfl rfl ?_
        refine ops_nil ?_
        refine run_cond_t rfl ?_
        refine run_seq ?_
        refine run_region ?_
        refine ov (xassign rfl) rfl rfl rfl ?_
        refine ov (xassign rfl) rfl rfl rfl ?_
        refine ops_nil ?_
        refine run_ret Try.func32 (res2 rfl rfl rfl) ?_
        have he : holderOn x day = (⟨#[]⟩, 5) := by unfold holderOn; (repeat' split) <;> first | rfl | (exfalso; omega) | (exfalso; simp_all; done)
        exact ⟨_, rfl, by rw [he], E⟩
      ·
        refine ov (xmove rfl) rfl rfl rfl ?_
        refine ov (xmove rfl) rfl rfl rfl ?_
        refine ov (xgeq rfl rfl _ rfl) rfl rfl rfl ?_
        refine ods (fun c29 => ?_) (fun c29 => ?_)
        ·
          refine ov (xmove rfl) rfl rfl rfl ?_
          refine ov (xmove rfl) rfl rfl rfl ?_
          refine ov (xmove rfl) rfl rfl rfl ?_
          refine ov (xlss rfl rfl _ rfl) rfl rfl rfl ?_
          refine ods (fun c33 => ?_) (fun c33 => ?_)
          ·
            refine ov (xpick_t rfl rfl) rfl rfl rfl ?_
            refine ov (xpick_f rfl rfl) rfl rfl rfl ?_
            refine ops_nil ?_
            refine run_cond_t rfl ?_
            refine run_seq ?_
            refine run_region ?_
            refine ov (xassign rfl) rfl rfl rfl ?_
            refine ov (xassign rfl) rfl rfl rfl ?_
            refine ops_nil ?_
            refine run_ret Try.func32 (res2 rfl rfl rfl) ?_
            have he : holderOn x day = (⟨#[]⟩, 5) := by unfold holderOn; (repeat' split) <;> first | rfl | (exfalso; omega) | (exfalso; simp_all; done)
            exact ⟨_, rfl, by rw [he], E⟩
          ·
            refine ov (xpick_t rfl rfl) rfl rfl rfl ?_
            refine ov (xpick_f rfl rfl) rfl rfl rfl ?_
            refine ops_nil ?_
            refine run_cond_f rfl ?_
            refine run_skip ?_
            refine run_seq ?_
            refine run_region ?_
            refine ov (xmove rfl) rfl rfl rfl ?_
            refine ov (xassign rfl) rfl rfl rfl ?_
            refine ov (xassign rfl) rfl rfl rfl ?_
            refine ops_nil ?_
            refine run_ret Try.func32 (res2 rfl rfl rfl) ?_
            have he : holderOn x day = ((hold x (past x day)), 0) := by unfold holderOn; (repeat' split) <;> first | rfl | (exfalso; omega) | (exfalso; simp_all; done)
            exact ⟨_, rfl, by rw [he], E⟩
        ·
          refine ov (xmove rfl) rfl rfl rfl ?_
          refine og rfl rfl rfl ?_
          refine og rfl rfl rfl ?_
          refine og rfl rfl rfl ?_
          refine ov (xpick_f rfl rfl) rfl rfl rfl ?_
          refine ov (xpick_f rfl rfl) rfl rfl rfl ?_
          refine ops_nil ?_
          refine run_cond_f rfl ?_
          refine run_skip ?_
          refine run_seq ?_
          refine run_region ?_
          refine ov (xmove rfl) rfl rfl rfl ?_
          refine ov (xassign rfl) rfl rfl rfl ?_
          refine ov (xassign rfl) rfl rfl rfl ?_
          refine ops_nil ?_
          refine run_ret Try.func32 (res2 rfl rfl rfl) ?_
          have he : holderOn x day = ((hold x (past x day)), 0) := by unfold holderOn; (repeat' split) <;> first | rfl | (exfalso; omega) | (exfalso; simp_all; done)
          exact ⟨_, rfl, by rw [he], E⟩
    ·
      refine ov (xnot rfl) rfl rfl rfl ?_
      refine ops_nil ?_
      refine run_cond_t rfl ?_
      refine run_seq ?_
      refine run_region ?_
      refine ov (xassign rfl) rfl rfl rfl ?_
      refine ov (xassign rfl) rfl rfl rfl ?_
      refine ops_nil ?_
      refine run_ret Try.func32 (res2 rfl rfl rfl) ?_
      have he : holderOn x day = (⟨#[]⟩, 2) := by unfold holderOn; (repeat' split) <;> first | rfl | (exfalso; omega) | (exfalso; simp_all; done)
      exact ⟨_, rfl, by rw [he], E⟩
  ·
    refine ov (xnot rfl) rfl rfl rfl ?_
    refine ops_nil ?_
    refine run_cond_t rfl ?_
    refine run_seq ?_
    refine run_region ?_
    refine ov (xassign rfl) rfl rfl rfl ?_
    refine ov (xassign rfl) rfl rfl rfl ?_
    refine ops_nil ?_
    refine run_ret Try.func32 (res2 rfl rfl rfl) ?_
    have he : holderOn x day = (⟨#[]⟩, 1) := by unfold holderOn; (repeat' split) <;> first | rfl | (exfalso; omega) | (exfalso; simp_all; done)
    exact ⟨_, rfl, by rw [he], E⟩

theorem inR_le {lo hi n : Int} (h : inR lo hi n = true) : lo ≤ n ∧ n ≤ hi := by
  exact inR_iff.1 h
theorem isExhibit_day {x : Exhibit} (h : isExhibit x = true) : 0 ≤ x.Day ∧ x.Day ≤ 20000 := by
  simp only [isExhibit, Bool.and_eq_true] at h; exact inR_le h.2.1.1.2

set_option maxHeartbeats 400000 in
theorem DaysHeld_ok (p : Option Addr) (n c : Nat) (x : Exhibit) (w : World) (H : Sl Handing.cells 4 w p n c x.Chain) (hx : exSmall x) (who : ByteArray) (till : Int) : Ret Try.prog 37 [.agg #[.string x.Code, .string x.Found, .int .i64 x.Day, .int .i64 x.Seal, .slice p n c], .string who, .int .i64 till] w (Pv w (.tuple #[.int .i64 (daysHeld x who till).1, .int .i64 (daysHeld x who till).2])) := by
  refine ret_of_run (N := 40) Try.func37 rfl rfl rfl ?_
  have hn := H.len
  have hn6 := H.n64
  have hb := brk_le x
  have hz := brkZ_or x
  have E : Ext w w := Ext.refl w
  refine run_seq ?_
  refine run_region ?_
  refine obox rfl rfl rfl ?_
  intro b1 w1 e1 hb1 hz1 O1
  have E := E.trans e1
  replace O1 : Own w1 b1 [.string x.Code, .string x.Found, .int .i64 x.Day, .int .i64 x.Seal, .slice p n c] 49 := O1
  refine ov (xassign rfl) rfl rfl rfl ?_
  refine ov (xassign rfl) rfl rfl rfl ?_
  refine ops_nil ?_
  refine run_seq ?_
  refine run_block ?_
  refine run_seq ?_
  refine run_region ?_
  refine ov (v := .agg #[.string x.Code, .string x.Found, .int .i64 x.Day, .int .i64 x.Seal, .slice p n c]) (xloadN Try.isAgg49 Try.sizeOf49 rfl (O1.cells) rfl) rfl rfl rfl ?_
  refine oc (xcall Try.call66 rfl) rfl rfl rfl (IsExhibit_ok _ _ _ _ _ (H.ext E) (by assumption)) ?_
  rintro _ w2 ⟨rfl, e2⟩
  have z2 := e2.size
  have E := E.trans e2
  replace O1 := O1.ext e2
  refine obs (fun c12 => ?_) (fun c12 => ?_)
  ·
    have hd := isExhibit_day c12
    refine ov (xnot rfl) rfl rfl rfl ?_
    refine ov (xassign rfl) rfl rfl rfl ?_
    refine ops_nil ?_
    refine run_cond_f rfl ?_
    refine run_seq ?_
    refine run_region ?_
    refine ov (xmove rfl) rfl rfl rfl ?_
    refine oc (xcall Try.call96 rfl) rfl rfl rfl (isDay_ok (till) _) ?_
    rintro _ w_ ⟨rfl, hw_⟩
    replace hw_ := hw_.symm
    subst hw_
    refine obs (fun c16 => ?_) (fun c16 => ?_)
    ·
      have ht := inR_le c16
      refine ov (xnot rfl) rfl rfl rfl ?_
      refine ov (xassign rfl) rfl rfl rfl ?_
      refine ops_nil ?_
      refine run_cond_f rfl ?_
      refine run_seq ?_
      refine run_region ?_
      refine ov (v := .agg #[.string x.Code, .string x.Found, .int .i64 x.Day, .int .i64 x.Seal, .slice p n c]) (xloadN Try.isAgg49 Try.sizeOf49 rfl (O1.cells) rfl) rfl rfl rfl ?_
      refine oc (xcall Try.call109 rfl) rfl rfl rfl (unbroken_ok _ _ _ _ _ (H.ext E)) ?_
      rintro _ w3 ⟨rfl, e3⟩
      have z3 := e3.size
      have E := E.trans e3
      replace O1 := O1.ext e3
      refine obs (fun c20 => ?_) (fun c20 => ?_)
      ·
        refine ov (xnot rfl) rfl rfl rfl ?_
        refine ov (xassign rfl) rfl rfl rfl ?_
        refine ops_nil ?_
        refine run_cond_f rfl ?_
        refine run_skip ?_
        refine run_inBlock ?_
        refine run_seq ?_
        refine run_region ?_
        refine ov (xassign rfl) rfl rfl rfl ?_
        refine ops_nil ?_
        refine run_seq ?_
        refine run_seq ?_
        refine run_region ?_
        refine ov (xfieldAddr fo49f2 rfl) rfl rfl rfl ?_
        refine ov (v := .int .i64 x.Day) (xload1 Try.isAgg2 rfl (O1.cells) rfl) rfl rfl rfl ?_
        refine ov (xassign rfl) rfl rfl rfl ?_
        refine ops_nil ?_
        refine run_block ?_
        refine run_loop (ι := Nat × Int × Int × World) (fun x_ => match x_ with | (i, dd, cc, wr) => (Ext w wr) ∧ (Own wr b1 ([.string x.Code, .string x.Found, .int .i64 x.Day, .int .i64 x.Seal, .slice p n c]) 49) ∧ (w3.heap.size ≤ wr.heap.size) ∧ (i ≤ (till - x.Day).toNat) ∧ (dd = x.Day + (i : Int)) ∧ (cc = dcount x who i)) (fun x_ => match x_ with | (i, dd, cc, wr) => [(1, .string who), (2, .int .i64 till), (3, .pointer (some ⟨b1, 0, none⟩)), (8, .int .i64 cc), (9, .int .i64 dd)]) (fun x_ => match x_ with | (i, dd, cc, wr) => wr) (fun x_ => match x_ with | (i, dd, cc, wr) => (till - x.Day).toNat - i) ?_ (0, x.Day, 0, w3) (⟨E, O1, Nat.le_refl _, by omega, by omega, by rfl⟩) ⟨rfl, rfl, rfl, rfl, rfl, trivial⟩ rfl
        intro i_ hI_ hback9
        obtain ⟨i, dd, cc, wr⟩ := i_
        obtain ⟨E, O_b1, lz_wr, hi, hdd, hcc⟩ := hI_
        try dsimp only
        have zr := E.size
        have lt_b1 := O_b1.lt
        have hp := past_le x (dd - 1)
        have hl := dcount_le x who i
        refine run_seq ?_
        refine run_seq ?_
        refine run_region ?_
        refine ov (xmove rfl) rfl rfl rfl ?_
        refine ov (xmove rfl) rfl rfl rfl ?_
        refine ov (xlss rfl rfl _ rfl) rfl rfl rfl ?_
        refine ods (fun c26 => ?_) (fun c26 => ?_)
        ·
          refine ops_nil ?_
          refine run_cond_t rfl ?_
          refine run_skip ?_
          refine run_seq ?_
          refine run_block ?_
          refine run_seq ?_
          refine run_draw (by kernel_rfl) (by kernel_rfl) ?_
          refine qv (v := .agg #[.string x.Code, .string x.Found, .int .i64 x.Day, .int .i64 x.Seal, .slice p n c]) (fun w' x_ => xloadN Try.isAgg49 Try.sizeOf49 rfl ((O_b1.cells).ext x_) rfl) rfl rfl rfl ?_
          refine qv (v := .agg #[.string x.Code, .string x.Found, .int .i64 x.Day, .int .i64 x.Seal, .slice p n c]) (fun w' x_ => xloadN Try.isAgg49 Try.sizeOf49 rfl ((O_b1.cells).ext x_) rfl) rfl rfl rfl ?_
          refine qv (fun w' x_ => xmove rfl) rfl rfl rfl ?_
          refine qv (fun w' x_ => xsub rfl rfl (by unfold I64; omega)) rfl rfl rfl ?_
          have t33 := fun (w' : World) (x_ : Ext wr w') => Ret.q (w := w') (past_ok _ _ _ _ _ ((H.ext E).ext x_) ((dd - 1)))
          refine qc (fun w' => xcall Try.call106 rfl) rfl rfl rfl t33 ?_
          clear t33
          have t34 := fun (w' : World) (x_ : Ext wr w') => Ret.q (w := w') (holder_ok _ _ _ _ _ ((H.ext E).ext x_) (past x (dd - 1)) (by omega))
          refine qc (fun w' => xcall Try.call107 rfl) rfl rfl rfl t34 ?_
          clear t34
          refine qv (fun w' x_ => xmove rfl) rfl rfl rfl ?_
          refine qv (fun w' x_ => xseql rfl rfl _ rfl) rfl rfl rfl ?_
          refine qds (fun c36 => ?_) (fun c36 => ?_)
          ·
            refine q_nil ?_
            intro w4 e4
            have z4 := e4.size
            have E := E.trans e4
            replace O_b1 := O_b1.ext e4
            refine run_cond_t rfl ?_
            refine run_region ?_
            refine ov (xmove rfl) rfl rfl rfl ?_
            refine ov (xadd rfl rfl (by unfold I64; omega)) rfl rfl rfl ?_
            refine ov (xassign rfl) rfl rfl rfl ?_
            refine ops_nil ?_
            refine run_inBlock ?_
            refine run_region ?_
            refine ov (xmove rfl) rfl rfl rfl ?_
            refine ov (xadd rfl rfl (by unfold I64; omega)) rfl rfl rfl ?_
            refine ov (xassign rfl) rfl rfl rfl ?_
            refine ops_nil ?_
            refine run_sub ?_ (hback9 (i + 1, dd + 1, (cc + 1), w4) (⟨E, O_b1, by omega, by omega, by omega, by rw [hcc, dcount, ← hdd, if_pos c36]⟩) (by first | omega | (dsimp only; omega)))
            exact ⟨rfl, rfl, rfl, rfl, rfl, trivial⟩
          ·
            refine q_nil ?_
            intro w4 e4
            have z4 := e4.size
            have E := E.trans e4
            replace O_b1 := O_b1.ext e4
            refine run_cond_f rfl ?_
            refine run_skip ?_
            refine run_inBlock ?_
            refine run_region ?_
            refine ov (xmove rfl) rfl rfl rfl ?_
            refine ov (xadd rfl rfl (by unfold I64; omega)) rfl rfl rfl ?_
            refine ov (xassign rfl) rfl rfl rfl ?_
            refine ops_nil ?_
            refine run_sub ?_ (hback9 (i + 1, dd + 1, cc, w4) (⟨E, O_b1, by omega, by omega, by omega, by rw [hcc, dcount, ← hdd, if_neg c36]⟩) (by first | omega | (dsimp only; omega)))
            exact ⟨rfl, rfl, rfl, rfl, rfl, trivial⟩
        ·
          refine ops_nil ?_
          refine run_cond_f rfl ?_
          refine run_exit rfl ?_
          refine run_seq ?_
          refine run_region ?_
          refine ov (xmove rfl) rfl rfl rfl ?_
          refine ov (xassign rfl) rfl rfl rfl ?_
          refine ov (xassign rfl) rfl rfl rfl ?_
          refine ops_nil ?_
          refine run_ret Try.func37 (res2 rfl rfl rfl) ?_
          have hi2 : i = (till - x.Day).toNat := by omega
          subst hi2
          have he : daysHeld x who till = (cc, 0) := by unfold daysHeld; (repeat' split) <;> first | rfl | (exfalso; omega) | (exfalso; simp_all; done) | (rw [hcc])
          exact ⟨_, rfl, by rw [he], E⟩
      ·
        refine ov (xnot rfl) rfl rfl rfl ?_
        refine ov (xassign rfl) rfl rfl rfl ?_
        refine ops_nil ?_
        refine run_cond_t rfl ?_
        refine run_seq ?_
        refine run_region ?_
        refine ov (xassign rfl) rfl rfl rfl ?_
        refine ov (xassign rfl) rfl rfl rfl ?_
        refine ops_nil ?_
        refine run_ret Try.func37 (res2 rfl rfl rfl) ?_
        have he : daysHeld x who till = (0, 5) := by unfold daysHeld; (repeat' split) <;> first | rfl | (exfalso; omega) | (exfalso; simp_all; done)
        exact ⟨_, rfl, by rw [he], E⟩
    ·
      refine ov (xnot rfl) rfl rfl rfl ?_
      refine ov (xassign rfl) rfl rfl rfl ?_
      refine ops_nil ?_
      refine run_cond_t rfl ?_
      refine run_seq ?_
      refine run_region ?_
      refine ov (xassign rfl) rfl rfl rfl ?_
      refine ov (xassign rfl) rfl rfl rfl ?_
      refine ops_nil ?_
      refine run_ret Try.func37 (res2 rfl rfl rfl) ?_
      have he : daysHeld x who till = (0, 2) := by unfold daysHeld; (repeat' split) <;> first | rfl | (exfalso; omega) | (exfalso; simp_all; done)
      exact ⟨_, rfl, by rw [he], E⟩
  ·
    refine ov (xnot rfl) rfl rfl rfl ?_
    refine ov (xassign rfl) rfl rfl rfl ?_
    refine ops_nil ?_
    refine run_cond_t rfl ?_
    refine run_seq ?_
    refine run_region ?_
    refine ov (xassign rfl) rfl rfl rfl ?_
    refine ov (xassign rfl) rfl rfl rfl ?_
    refine ops_nil ?_
    refine run_ret Try.func37 (res2 rfl rfl rfl) ?_
    have he : daysHeld x who till = (0, 1) := by unfold daysHeld; (repeat' split) <;> first | rfl | (exfalso; omega) | (exfalso; simp_all; done)
    exact ⟨_, rfl, by rw [he], E⟩

set_option maxHeartbeats 400000 in
theorem sDaysHeld_ok (p : Option Addr) (n c : Nat) (x : Exhibit) (w : World) (H : Sl Handing.cells 4 w p n c x.Chain) (hx : exSmall x) (who : ByteArray) (till : Int) : Ret Try.prog 36 [.agg #[.string x.Code, .string x.Found, .int .i64 x.Day, .int .i64 x.Seal, .slice p n c], .string who, .int .i64 till] w (Pv w (.tuple #[.int .i64 (daysHeld x who till).1, .int .i64 (daysHeld x who till).2])) := by
  refine ret_of_run (N := 41) Try.func36 rfl rfl rfl ?_
  have hn := H.len
  have hn6 := H.n64
  have hb := brk_le x
  have hz := brkZ_or x
  have E : Ext w w := Ext.refl w
  refine run_seq ?_
  refine run_region ?_
  refine obox rfl rfl rfl ?_
  intro b1 w1 e1 hb1 hz1 O1
  have E := E.trans e1
  replace O1 : Own w1 b1 [.string x.Code, .string x.Found, .int .i64 x.Day, .int .i64 x.Seal, .slice p n c] 49 := O1
  refine ov (xassign rfl) rfl rfl rfl ?_
  refine ov (xassign rfl) rfl rfl rfl ?_
  refine ops_nil ?_
  refine run_seq ?_
  refine run_seq ?_
  refine run_region ?_
  refine ov (v := .agg #[.string x.Code, .string x.Found, .int .i64 x.Day, .int .i64 x.Seal, .slice p n c]) (xloadN Try.isAgg49 Try.sizeOf49 rfl (O1.cells) rfl) rfl rfl rfl ?_
  refine oc (xcall Try.call101 rfl) rfl rfl rfl (sIsExhibit_ok _ _ _ _ _ (H.ext E) (by assumption)) ?_
  rintro _ w2 ⟨rfl, e2⟩
  have z2 := e2.size
  have E := E.trans e2
  replace O1 := O1.ext e2
  refine obs (fun c13 => ?_) (fun c13 => ?_)
  ·
    have hd := isExhibit_day c13
    refine ov (xnot rfl) rfl rfl rfl ?_
    refine ops_nil ?_
    refine run_cond_f rfl ?_
    refine run_skip ?_
    refine run_seq ?_
    refine run_seq ?_
    refine run_region ?_
    refine ov (xmove rfl) rfl rfl rfl ?_
    refine oc (xcall Try.call93 rfl) rfl rfl rfl (l02Is_ok (till) _) ?_
    rintro _ w_ ⟨rfl, hw_⟩
    replace hw_ := hw_.symm
    subst hw_
    refine obs (fun c16 => ?_) (fun c16 => ?_)
    ·
      have ht := inR_le c16
      refine ov (xnot rfl) rfl rfl rfl ?_
      refine ops_nil ?_
      refine run_cond_f rfl ?_
      refine run_skip ?_
      refine run_seq ?_
      refine run_seq ?_
      refine run_region ?_
      refine ov (v := .agg #[.string x.Code, .string x.Found, .int .i64 x.Day, .int .i64 x.Seal, .slice p n c]) (xloadN Try.isAgg49 Try.sizeOf49 rfl (O1.cells) rfl) rfl rfl rfl ?_
      refine oc (xcall Try.call103 rfl) rfl rfl rfl (l23Break_ok _ _ _ _ _ (H.ext E)) ?_
      rintro _ w3 ⟨rfl, e3⟩
      have z3 := e3.size
      have E := E.trans e3
      replace O1 := O1.ext e3
      refine ov (xgeq rfl rfl _ rfl) rfl rfl rfl ?_
      refine ods (fun c20 => ?_) (fun c20 => ?_)
      ·
        refine ops_nil ?_
        refine run_cond_t rfl ?_
        refine run_seq ?_
        refine run_region ?_
        refine ov (xassign rfl) rfl rfl rfl ?_
        refine ov (xassign rfl) rfl rfl rfl ?_
        refine ops_nil ?_
        refine run_ret Try.func36 (res2 rfl rfl rfl) ?_
        have he : daysHeld x who till = (0, 5) := by unfold daysHeld; (repeat' split) <;> first | rfl | (exfalso; omega) | (exfalso; simp_all; done)
        exact ⟨_, rfl, by rw [he], E⟩
      ·
        refine ops_nil ?_
        refine run_cond_f rfl ?_
        refine run_skip ?_
        refine run_seq ?_
        refine run_region ?_
        refine ov (xassign rfl) rfl rfl rfl ?_
        refine ops_nil ?_
        refine run_seq ?_
        refine run_seq ?_
        refine run_region ?_
        refine ov (xfieldAddr fo49f2 rfl) rfl rfl rfl ?_
        refine ov (v := .int .i64 x.Day) (xload1 Try.isAgg2 rfl (O1.cells) rfl) rfl rfl rfl ?_
        refine ov (xassign rfl) rfl rfl rfl ?_
        refine ops_nil ?_
        refine run_block ?_
        refine run_loop (ι := Nat × Int × Int × World) (fun x_ => match x_ with | (i, dd, cc, wr) => (Ext w wr) ∧ (Own wr b1 ([.string x.Code, .string x.Found, .int .i64 x.Day, .int .i64 x.Seal, .slice p n c]) 49) ∧ (w3.heap.size ≤ wr.heap.size) ∧ (i ≤ (till - x.Day).toNat) ∧ (dd = x.Day + (i : Int)) ∧ (cc = dcount x who i)) (fun x_ => match x_ with | (i, dd, cc, wr) => [(1, .string who), (2, .int .i64 till), (3, .pointer (some ⟨b1, 0, none⟩)), (8, .int .i64 cc), (9, .int .i64 dd)]) (fun x_ => match x_ with | (i, dd, cc, wr) => wr) (fun x_ => match x_ with | (i, dd, cc, wr) => (till - x.Day).toNat - i) ?_ (0, x.Day, 0, w3) (⟨E, O1, Nat.le_refl _, by omega, by omega, by rfl⟩) ⟨rfl, rfl, rfl, rfl, rfl, trivial⟩ rfl
        intro i_ hI_ hback9
        obtain ⟨i, dd, cc, wr⟩ := i_
        obtain ⟨E, O_b1, lz_wr, hi, hdd, hcc⟩ := hI_
        try dsimp only
        have zr := E.size
        have lt_b1 := O_b1.lt
        have hp := past_le x (dd - 1)
        have hl := dcount_le x who i
        refine run_seq ?_
        refine run_seq ?_
        refine run_region ?_
        refine ov (xmove rfl) rfl rfl rfl ?_
        refine ov (xmove rfl) rfl rfl rfl ?_
        refine ov (xlss rfl rfl _ rfl) rfl rfl rfl ?_
        refine ods (fun c25 => ?_) (fun c25 => ?_)
        ·
          refine ops_nil ?_
          refine run_cond_t rfl ?_
          refine run_skip ?_
          refine run_seq ?_
          refine run_block ?_
          refine run_seq ?_
          refine run_region ?_
          refine ov (v := .agg #[.string x.Code, .string x.Found, .int .i64 x.Day, .int .i64 x.Seal, .slice p n c]) (xloadN Try.isAgg49 Try.sizeOf49 rfl (O_b1.cells) rfl) rfl rfl rfl ?_
          refine ov (xmove rfl) rfl rfl rfl ?_
          refine ov (xsub rfl rfl (by unfold I64; omega)) rfl rfl rfl ?_
          refine oc (xcall Try.call102 rfl) rfl rfl rfl (l23Holder_ok _ _ _ _ _ (H.ext E) ((dd - 1))) ?_
          rintro _ w4 ⟨rfl, e4⟩
          have z4 := e4.size
          have E := E.trans e4
          replace O_b1 := O_b1.ext e4
          refine ov (xmove rfl) rfl rfl rfl ?_
          refine ov (xextract rfl rfl) rfl rfl rfl ?_
          refine ov (xextract rfl rfl) rfl rfl rfl ?_
          refine ov (xassign rfl) rfl rfl rfl ?_
          refine ov (xassign rfl) rfl rfl rfl ?_
          refine ops_nil ?_
          refine run_seq ?_
          refine run_region ?_
          refine ov (xmove rfl) rfl rfl rfl ?_
          refine ov (xmove rfl) rfl rfl rfl ?_
          refine ov (xseql rfl rfl _ rfl) rfl rfl rfl ?_
          refine ods (fun c37 => ?_) (fun c37 => ?_)
          ·
            refine ops_nil ?_
            refine run_cond_t rfl ?_
            refine run_region ?_
            refine ov (xmove rfl) rfl rfl rfl ?_
            refine ov (xadd rfl rfl (by unfold I64; omega)) rfl rfl rfl ?_
            refine ov (xassign rfl) rfl rfl rfl ?_
            refine ops_nil ?_
            refine run_inBlock ?_
            refine run_region ?_
            refine ov (xmove rfl) rfl rfl rfl ?_
            refine ov (xadd rfl rfl (by unfold I64; omega)) rfl rfl rfl ?_
            refine ov (xassign rfl) rfl rfl rfl ?_
            refine ops_nil ?_
            refine run_sub ?_ (hback9 (i + 1, dd + 1, (cc + 1), w4) (⟨E, O_b1, by omega, by omega, by omega, by rw [hcc, dcount, ← hdd, if_pos c37]⟩) (by first | omega | (dsimp only; omega)))
            exact ⟨rfl, rfl, rfl, rfl, rfl, trivial⟩
          ·
            refine ops_nil ?_
            refine run_cond_f rfl ?_
            refine run_skip ?_
            refine run_inBlock ?_
            refine run_region ?_
            refine ov (xmove rfl) rfl rfl rfl ?_
            refine ov (xadd rfl rfl (by unfold I64; omega)) rfl rfl rfl ?_
            refine ov (xassign rfl) rfl rfl rfl ?_
            refine ops_nil ?_
            refine run_sub ?_ (hback9 (i + 1, dd + 1, cc, w4) (⟨E, O_b1, by omega, by omega, by omega, by rw [hcc, dcount, ← hdd, if_neg c37]⟩) (by first | omega | (dsimp only; omega)))
            exact ⟨rfl, rfl, rfl, rfl, rfl, trivial⟩
        ·
          refine ops_nil ?_
          refine run_cond_f rfl ?_
          refine run_exit rfl ?_
          refine run_seq ?_
          refine run_region ?_
          refine ov (xmove rfl) rfl rfl rfl ?_
          refine ov (xassign rfl) rfl rfl rfl ?_
          refine ov (xassign rfl) rfl rfl rfl ?_
          refine ops_nil ?_
          refine run_ret Try.func36 (res2 rfl rfl rfl) ?_
          have hi2 : i = (till - x.Day).toNat := by omega
          subst hi2
          have he : daysHeld x who till = (cc, 0) := by unfold daysHeld; (repeat' split) <;> first | rfl | (exfalso; omega) | (exfalso; simp_all; done) | (rw [hcc])
          exact ⟨_, rfl, by rw [he], E⟩
    ·
      refine ov (xnot rfl) rfl rfl rfl ?_
      refine ops_nil ?_
      refine run_cond_t rfl ?_
      refine run_seq ?_
      refine run_region ?_
      refine ov (xassign rfl) rfl rfl rfl ?_
      refine ov (xassign rfl) rfl rfl rfl ?_
      refine ops_nil ?_
      refine run_ret Try.func36 (res2 rfl rfl rfl) ?_
      have he : daysHeld x who till = (0, 2) := by unfold daysHeld; (repeat' split) <;> first | rfl | (exfalso; omega) | (exfalso; simp_all; done)
      exact ⟨_, rfl, by rw [he], E⟩
  ·
    refine ov (xnot rfl) rfl rfl rfl ?_
    refine ops_nil ?_
    refine run_cond_t rfl ?_
    refine run_seq ?_
    refine run_region ?_
    refine ov (xassign rfl) rfl rfl rfl ?_
    refine ov (xassign rfl) rfl rfl rfl ?_
    refine ops_nil ?_
    refine run_ret Try.func36 (res2 rfl rfl rfl) ?_
    have he : daysHeld x who till = (0, 1) := by unfold daysHeld; (repeat' split) <;> first | rfl | (exfalso; omega) | (exfalso; simp_all; done)
    exact ⟨_, rfl, by rw [he], E⟩
end Go.Proofs.Ytnjohcbamblilaa
