/-
  The text of a ruling. No condition beyond those written in each theorem.
-/
import Derived.Test.YtnjohcbamblilaaDoorDec
namespace Go.Proofs.YtnjohcbamblilaaDoor
open Go.RowKit
set_option linter.unusedVariables false
set_option linter.unusedSimpArgs false
set_option linter.unusedSectionVars false
set_option maxRecDepth 4000

def rulText (r : Ruling) : ByteArray := (((dec r.Day.toNat ++ ⟨#[47]⟩) ++ r.Code) ++ ⟨#[47]⟩) ++ kword r.Kind
def rulingText (r : Ruling) : ByteArray × Int := if isRuling r = true then (rulText r, 0) else (⟨#[]⟩, 1)
theorem rt_t {r : Ruling} (h : isRuling r = true) : rulingText r = (rulText r, 0) := if_pos h
theorem rt_f {r : Ruling} (h : isRuling r = false) : rulingText r = (⟨#[]⟩, 1) := if_neg (by rw [h]; decide)

set_option maxHeartbeats 400000 in
theorem l25Text_ok (r : Ruling) (w : World) (h0 : 0 ≤ r.Day) (h1 : r.Day ≤ 9223372036854775807) (hc : r.Code.size ≤ 1000000) (hk0 : 0 ≤ r.Kind) (hk1 : r.Kind ≤ 3) : Ret Tryd.prog 17 [.agg #[.int .i64 r.Day, .string r.Code, .int .i64 r.Kind]] w (Pv w (.string (rulText r))) := by
  refine ret_of_run (N := 15) Tryd.func17 rfl rfl rfl ?_
  have E : Ext w w := Ext.refl w
  refine run_seq ?_
  refine run_region ?_
  refine obox rfl rfl rfl ?_
  intro b1 w1 e1 hb1 hz1 O1
  have E := E.trans e1
  replace O1 : Own w1 b1 [.int .i64 r.Day, .string r.Code, .int .i64 r.Kind] 27 := O1
  refine ov (xassign rfl) rfl rfl rfl ?_
  refine ops_nil ?_
  refine run_seq ?_
  refine run_draw (by kernel_rfl) (by kernel_rfl) ?_
  refine qv (fun w' x_ => xfieldAddr fo27f0 rfl) rfl rfl rfl ?_
  refine qv (v := .int .i64 r.Day) (fun w' x_ => xload1 Tryd.isAgg2 rfl ((O1.cells).ext x_) rfl) rfl rfl rfl ?_
  have t5 := fun (w' : World) (x_ : Ext w1 w') => Ret.q (w := w') (l01Dec_ok (r.Day) _ (by omega) (by omega))
  refine qc (fun w' => xcall Tryd.call35 rfl) rfl rfl rfl t5 ?_
  clear t5
  refine qv (fun w' x_ => xsadd rfl rfl (by have hs_ := dec_size r.Day.toNat (by omega); have hk_ := kword_size r.Kind; simp only [ByteArray.size_append, sl1_size]; omega)) rfl rfl rfl ?_
  refine qv (fun w' x_ => xfieldAddr fo27f1 rfl) rfl rfl rfl ?_
  refine qv (v := .string r.Code) (fun w' x_ => xload1 Tryd.isAgg9 rfl ((O1.cells).ext x_) rfl) rfl rfl rfl ?_
  refine qv (fun w' x_ => xsadd rfl rfl (by have hs_ := dec_size r.Day.toNat (by omega); have hk_ := kword_size r.Kind; simp only [ByteArray.size_append, sl1_size]; omega)) rfl rfl rfl ?_
  refine qv (fun w' x_ => xsadd rfl rfl (by have hs_ := dec_size r.Day.toNat (by omega); have hk_ := kword_size r.Kind; simp only [ByteArray.size_append, sl1_size]; omega)) rfl rfl rfl ?_
  refine qv (fun w' x_ => xfieldAddr fo27f2 rfl) rfl rfl rfl ?_
  refine qv (v := .int .i64 r.Kind) (fun w' x_ => xload1 Tryd.isAgg2 rfl ((O1.cells).ext x_) rfl) rfl rfl rfl ?_
  have t13 := fun (w' : World) (x_ : Ext w1 w') => Ret.q (w := w') (l25Word_ok (r.Kind) _ (by omega) (by omega))
  refine qc (fun w' => xcall Tryd.call23 rfl) rfl rfl rfl t13 ?_
  clear t13
  refine qv (fun w' x_ => xsadd rfl rfl (by have hs_ := dec_size r.Day.toNat (by omega); have hk_ := kword_size r.Kind; simp only [ByteArray.size_append, sl1_size]; omega)) rfl rfl rfl ?_
  refine qv (fun w' x_ => xassign rfl) rfl rfl rfl ?_
  refine q_nil ?_
  intro w2 e2
  have z2 := e2.size
  have E := E.trans e2
  replace O1 := O1.ext e2
  refine run_ret Tryd.func17 (res1 rfl rfl) ?_
  exact ⟨_, rfl, pv E⟩

set_option maxHeartbeats 400000 in
theorem sRulingText_ok (r : Ruling) (w : World) (hc : r.Code.size ≤ 9223372036854775807) : Ret Tryd.prog 7 [.agg #[.int .i64 r.Day, .string r.Code, .int .i64 r.Kind]] w (Pv w (.tuple #[.string (rulingText r).1, .int .i64 (rulingText r).2])) := by
  refine ret_of_run (N := 9) Tryd.func7 rfl rfl rfl ?_
  have E : Ext w w := Ext.refl w
  refine run_seq ?_
  refine run_region ?_
  refine obox rfl rfl rfl ?_
  intro b1 w1 e1 hb1 hz1 O1
  have E := E.trans e1
  replace O1 : Own w1 b1 [.int .i64 r.Day, .string r.Code, .int .i64 r.Kind] 27 := O1
  refine ov (xassign rfl) rfl rfl rfl ?_
  refine ov (xassign rfl) rfl rfl rfl ?_
  refine ops_nil ?_
  refine run_seq ?_
  refine run_seq ?_
  refine run_region ?_
  refine ov (v := .agg #[.int .i64 r.Day, .string r.Code, .int .i64 r.Kind]) (xloadN Tryd.isAgg27 Tryd.sizeOf27 rfl (O1.cells) rfl) rfl rfl rfl ?_
  refine oc (xcall Tryd.call16 rfl) rfl rfl rfl (l25Is_ok _ _ (by first | assumption | omega)) ?_
  rintro _ w2 ⟨rfl, e2⟩
  have z2 := e2.size
  have E := E.trans e2
  replace O1 := O1.ext e2
  refine obs (fun c5 => ?_) (fun c5 => ?_)
  ·
    refine ov (xnot rfl) rfl rfl rfl ?_
    refine ops_nil ?_
    refine run_cond_f rfl ?_
    refine run_skip ?_
    refine run_seq ?_
    refine run_region ?_
    obtain ⟨hd0, hd1, hc1, hk0, hk1⟩ := isR_of c5
    refine ov (v := .agg #[.int .i64 r.Day, .string r.Code, .int .i64 r.Kind]) (xloadN Tryd.isAgg27 Tryd.sizeOf27 rfl (O1.cells) rfl) rfl rfl rfl ?_
    refine oc (xcall Tryd.call17 rfl) rfl rfl rfl (l25Text_ok r _ (by omega) (by omega) (by omega) (by omega) (by omega)) ?_
    rintro _ w3 ⟨rfl, e3⟩
    have z3 := e3.size
    have E := E.trans e3
    replace O1 := O1.ext e3
    refine ov (xassign rfl) rfl rfl rfl ?_
    refine ov (xassign rfl) rfl rfl rfl ?_
    refine ops_nil ?_
    refine run_ret Tryd.func7 (res2 rfl rfl rfl) ?_
    exact ⟨_, rfl, by rw [rt_t (by assumption)]; try rfl, E⟩
  ·
    refine ov (xnot rfl) rfl rfl rfl ?_
    refine ops_nil ?_
    refine run_cond_t rfl ?_
    refine run_seq ?_
    refine run_region ?_
    refine ov (xassign rfl) rfl rfl rfl ?_
    refine ov (xassign rfl) rfl rfl rfl ?_
    refine ops_nil ?_
    refine run_ret Tryd.func7 (res2 rfl rfl rfl) ?_
    exact ⟨_, rfl, by rw [rt_f (by assumption)]; try rfl, E⟩

set_option maxHeartbeats 400000 in
theorem RulingText_ok (r : Ruling) (w : World) (hc : r.Code.size ≤ 9223372036854775807) (hT : Tab w) : Ret Tryd.prog 9 [.agg #[.int .i64 r.Day, .string r.Code, .int .i64 r.Kind]] w (Pv w (.tuple #[.string (rulingText r).1, .int .i64 (rulingText r).2])) := by
  refine ret_of_run (N := 19) Tryd.func9 rfl rfl rfl ?_
  have E : Ext w w := Ext.refl w
  refine run_seq ?_
  refine run_region ?_
  refine obox rfl rfl rfl ?_
  intro b1 w1 e1 hb1 hz1 O1
  have E := E.trans e1
  replace O1 : Own w1 b1 [.int .i64 r.Day, .string r.Code, .int .i64 r.Kind] 27 := O1
  refine ov (xassign rfl) rfl rfl rfl ?_
  refine ov (xassign rfl) rfl rfl rfl ?_
  refine ops_nil ?_
  refine run_seq ?_
  refine run_seq ?_
  refine run_region ?_
  refine ov (v := .agg #[.int .i64 r.Day, .string r.Code, .int .i64 r.Kind]) (xloadN Tryd.isAgg27 Tryd.sizeOf27 rfl (O1.cells) rfl) rfl rfl rfl ?_
  refine oc (xcall Tryd.call18 rfl) rfl rfl rfl (isRuling_ok _ _ (by first | assumption | omega)) ?_
  rintro _ w2 ⟨rfl, e2⟩
  have z2 := e2.size
  have E := E.trans e2
  replace O1 := O1.ext e2
  refine obs (fun c5 => ?_) (fun c5 => ?_)
  ·
    refine ov (xnot rfl) rfl rfl rfl ?_
    refine ops_nil ?_
    refine run_cond_f rfl ?_
    refine run_skip ?_
    refine run_seq ?_
    refine run_draw (by kernel_rfl) (by kernel_rfl) ?_
    obtain ⟨hd0, hd1, hc1, hk0, hk1⟩ := isR_of c5
    refine qv (fun w' x_ => xfieldAddr fo27f0 rfl) rfl rfl rfl ?_
    refine qv (v := .int .i64 r.Day) (fun w' x_ => xload1 Tryd.isAgg2 rfl ((O1.cells).ext x_) rfl) rfl rfl rfl ?_
    have t9 := fun (w' : World) (x_ : Ext w2 w') => Ret.q (w := w') (decimal_ok (r.Day) _ (by omega) (by omega) (hT.ext (E.trans x_)))
    refine qc (fun w' => xcall Tryd.call19 rfl) rfl rfl rfl t9 ?_
    clear t9
    refine qv (fun w' x_ => xsadd rfl rfl (by have hs_ := dec_size r.Day.toNat (by omega); have hk_ := kword_size r.Kind; simp only [ByteArray.size_append, sl1_size]; omega)) rfl rfl rfl ?_
    refine qv (fun w' x_ => xfieldAddr fo27f1 rfl) rfl rfl rfl ?_
    refine qv (v := .string r.Code) (fun w' x_ => xload1 Tryd.isAgg9 rfl ((O1.cells).ext x_) rfl) rfl rfl rfl ?_
    refine qv (fun w' x_ => xsadd rfl rfl (by have hs_ := dec_size r.Day.toNat (by omega); have hk_ := kword_size r.Kind; simp only [ByteArray.size_append, sl1_size]; omega)) rfl rfl rfl ?_
    refine qv (fun w' x_ => xsadd rfl rfl (by have hs_ := dec_size r.Day.toNat (by omega); have hk_ := kword_size r.Kind; simp only [ByteArray.size_append, sl1_size]; omega)) rfl rfl rfl ?_
    refine qv (fun w' x_ => xfieldAddr fo27f2 rfl) rfl rfl rfl ?_
    refine qv (v := .int .i64 r.Kind) (fun w' x_ => xload1 Tryd.isAgg2 rfl ((O1.cells).ext x_) rfl) rfl rfl rfl ?_
    have t17 := fun (w' : World) (x_ : Ext w2 w') => Ret.q (w := w') (kindWord_ok (r.Kind) _ (by omega) (by omega))
    refine qc (fun w' => xcall Tryd.call20 rfl) rfl rfl rfl t17 ?_
    clear t17
    refine qv (fun w' x_ => xsadd rfl rfl (by have hs_ := dec_size r.Day.toNat (by omega); have hk_ := kword_size r.Kind; simp only [ByteArray.size_append, sl1_size]; omega)) rfl rfl rfl ?_
    refine qv (fun w' x_ => xassign rfl) rfl rfl rfl ?_
    refine qv (fun w' x_ => xassign rfl) rfl rfl rfl ?_
    refine q_nil ?_
    intro w3 e3
    have z3 := e3.size
    have E := E.trans e3
    replace O1 := O1.ext e3
    refine run_ret Tryd.func9 (res2 rfl rfl rfl) ?_
    exact ⟨_, rfl, by rw [rt_t (by assumption)]; try rfl, E⟩
  ·
    refine ov (xnot rfl) rfl rfl rfl ?_
    refine ops_nil ?_
    refine run_cond_t rfl ?_
    refine run_seq ?_
    refine run_region ?_
    refine ov (xassign rfl) rfl rfl rfl ?_
    refine ov (xassign rfl) rfl rfl rfl ?_
    refine ops_nil ?_
    refine run_ret Tryd.func9 (res2 rfl rfl rfl) ?_
    exact ⟨_, rfl, by rw [rt_f (by assumption)]; try rfl, E⟩
end Go.Proofs.YtnjohcbamblilaaDoor
