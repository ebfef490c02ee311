/-
  The laws' own functions on rulings. No condition beyond those written in each theorem.
-/
import Derived.Test.YtnjohcbamblilaaDoorBase
import Derived.Test.YtnjohcbamblilaaDoorLists
namespace Go.Proofs.YtnjohcbamblilaaDoor
open Go.RowKit
set_option linter.unusedVariables false
set_option linter.unusedSimpArgs false
set_option linter.unusedSectionVars false
set_option maxRecDepth 4000


structure Ruling where
  Day : Int
  Code : ByteArray
  Kind : Int
def Ruling.cells (r : Ruling) : List Value := [.int .i64 r.Day, .string r.Code, .int .i64 r.Kind]
def Ruling.ok (r : Ruling) : Prop := I64 r.Day ∧ r.Code.size ≤ 9223372036854775807 ∧ I64 r.Kind
def szRuling (r : Ruling) (l : Int) : Int := sub1 r.Code.size l
def eqRuling (r s : Ruling) : Bool := decide (r.Day = s.Day ∧ r.Code = s.Code ∧ r.Kind = s.Kind)
theorem eqRuling_iff {r s : Ruling} : eqRuling r s = true ↔ r = s := by cases r; cases s; simp [eqRuling]
theorem eqRuling_refl (r : Ruling) : eqRuling r r = true := eqRuling_iff.2 rfl
theorem Ruling.len (r : Ruling) : r.cells.length = 3 := rfl
theorem Ruling.ext' {a b : Ruling} (h0 : a.Day = b.Day) (h1 : a.Code = b.Code) (h2 : a.Kind = b.Kind) : a = b := by cases a; cases b; simp_all
theorem szRuling_le (r : Ruling) (l : Int) (h : -1 ≤ l) : -1 ≤ szRuling r l ∧ szRuling r l ≤ l := by unfold szRuling; (try unfold bnd); unfold sub1; (try dsimp only); constructor <;> (repeat' split) <;> omega


set_option maxHeartbeats 400000 in
theorem szRuling_ok (r : Ruling) (l : Int) (w : World) (hr : r.ok) (h0 : 0 ≤ l) (h1 : l ≤ 1048576) : Ret Tryd.prog 6 [.agg #[.int .i64 r.Day, .string r.Code, .int .i64 r.Kind], .int .i64 l] w (Pv w (.int .i64 (szRuling r l))) := by
  refine ret_of_run (N := 13) Tryd.func6 rfl rfl rfl ?_
  obtain ⟨o0, o1, o2⟩ := hr
  try unfold I64 at *
  have E : Ext w w := Ext.refl w
  refine run_seq ?_
  refine run_region ?_
  refine obox rfl rfl rfl ?_
  intro b1 w1 e1 hb1 hz1 O1
  have E := E.trans e1
  replace O1 : Own w1 b1 [.int .i64 r.Day, .string r.Code, .int .i64 r.Kind] 23 := O1
  refine ov (xassign rfl) rfl rfl rfl ?_
  refine ops_nil ?_
  refine run_seq ?_
  refine run_region ?_
  refine ov (xmove rfl) rfl rfl rfl ?_
  refine ov (xfieldAddr fo23f1 rfl) rfl rfl rfl ?_
  refine ov (v := .string r.Code) (xload1 Tryd.isAgg9 rfl (O1.cells) rfl) rfl rfl rfl ?_
  refine ov (xlens Tryd.underlying9 rfl) rfl rfl rfl ?_
  refine ov (xsub rfl rfl (by unfold I64; omega)) rfl rfl rfl ?_
  refine ov (xassign rfl) rfl rfl rfl ?_
  refine ops_nil ?_
  refine run_seq ?_
  refine run_seq ?_
  refine run_region ?_
  refine ov (xmove rfl) rfl rfl rfl ?_
  refine ov (xlss rfl rfl _ rfl) rfl rfl rfl ?_
  refine ods (fun c11 => ?_) (fun c11 => ?_)
  ·
    refine ops_nil ?_
    refine run_cond_t rfl ?_
    refine run_seq ?_
    refine run_region ?_
    refine ov (xassign rfl) rfl rfl rfl ?_
    refine ops_nil ?_
    refine run_ret Tryd.func6 (res1 rfl rfl) ?_
    exact ⟨_, rfl, by unfold szRuling; (try unfold bnd); unfold sub1; simp only [*, if_true, if_false, ↓reduceIte] <;> (try simp), E⟩
  ·
    refine ops_nil ?_
    refine run_cond_f rfl ?_
    refine run_skip ?_
    refine run_seq ?_
    refine run_region ?_
    refine ov (xmove rfl) rfl rfl rfl ?_
    refine ov (xassign rfl) rfl rfl rfl ?_
    refine ops_nil ?_
    refine run_ret Tryd.func6 (res1 rfl rfl) ?_
    exact ⟨_, rfl, by unfold szRuling; (try unfold bnd); unfold sub1; simp only [*, if_true, if_false, ↓reduceIte] <;> (try simp), E⟩

set_option maxHeartbeats 400000 in
theorem toRuling_ok (r : Ruling) (w : World) : Ret Tryd.prog 8 [.agg #[.int .i64 r.Day, .string r.Code, .int .i64 r.Kind]] w (Pv w (.agg #[.int .i64 r.Day, .string r.Code, .int .i64 r.Kind])) := by
  refine ret_of_run (N := 14) Tryd.func8 rfl rfl rfl ?_
  have E : Ext w w := Ext.refl w
  refine run_seq ?_
  refine run_region ?_
  refine obox rfl rfl rfl ?_
  intro b1 w1 e1 hb1 hz1 O1
  have E := E.trans e1
  replace O1 : Own w1 b1 [.int .i64 r.Day, .string r.Code, .int .i64 r.Kind] 23 := O1
  refine oalloc Tryd.zeroValue27 rfl rfl ?_
  intro b2 w2 e2 hb2 hz2 O2
  have E := E.trans e2
  replace O1 := O1.ext e2
  replace O2 : Own w2 b2 [.int .i64 0, .string ⟨#[]⟩, .int .i64 0] 27 := O2
  refine ops_nil ?_
  refine run_seq ?_
  refine run_region ?_
  refine oalloc Tryd.zeroValue27 rfl rfl ?_
  intro b3 w3 e3 hb3 hz3 O3
  have E := E.trans e3
  replace O1 := O1.ext e3
  replace O2 := O2.ext e3
  replace O3 : Own w3 b3 [.int .i64 0, .string ⟨#[]⟩, .int .i64 0] 27 := O3
  refine ops_nil ?_
  refine run_seq ?_
  refine run_region ?_
  refine ov (xfieldAddr fo23f0 rfl) rfl rfl rfl ?_
  refine ov (v := .int .i64 r.Day) (xload1 Tryd.isAgg2 rfl (O1.cells) rfl) rfl rfl rfl ?_
  refine ov (xfieldAddr fo27f0 rfl) rfl rfl rfl ?_
  refine ostore1 Tryd.sizeOf2 rfl rfl O3 (by simp) rfl rfl ?_
  intro w4 on4 O4
  have hz4 := on4.size
  have E := on4.ext E (by omega)
  replace O1 := on4.own O1 (by omega)
  replace O2 := on4.own O2 (by omega)
  replace O4 : Own w4 b3 [.int .i64 r.Day, .string ⟨#[]⟩, .int .i64 0] 27 := O4
  refine ops_nil ?_
  refine run_seq ?_
  refine run_region ?_
  refine ov (xfieldAddr fo23f1 rfl) rfl rfl rfl ?_
  refine ov (v := .string r.Code) (xload1 Tryd.isAgg9 rfl (O1.cells) rfl) rfl rfl rfl ?_
  refine ov (xfieldAddr fo27f1 rfl) rfl rfl rfl ?_
  refine ostore1 Tryd.sizeOf9 rfl rfl O4 (by simp) rfl rfl ?_
  intro w5 on5 O5
  have hz5 := on5.size
  have E := on5.ext E (by omega)
  replace O1 := on5.own O1 (by omega)
  replace O2 := on5.own O2 (by omega)
  replace O5 : Own w5 b3 [.int .i64 r.Day, .string r.Code, .int .i64 0] 27 := O5
  refine ops_nil ?_
  refine run_seq ?_
  refine run_region ?_
  refine ov (xfieldAddr fo23f2 rfl) rfl rfl rfl ?_
  refine ov (v := .int .i64 r.Kind) (xload1 Tryd.isAgg2 rfl (O1.cells) rfl) rfl rfl rfl ?_
  refine ov (xfieldAddr fo27f2 rfl) rfl rfl rfl ?_
  refine ostore1 Tryd.sizeOf2 rfl rfl O5 (by simp) rfl rfl ?_
  intro w6 on6 O6
  have hz6 := on6.size
  have E := on6.ext E (by omega)
  replace O1 := on6.own O1 (by omega)
  replace O2 := on6.own O2 (by omega)
  replace O6 : Own w6 b3 [.int .i64 r.Day, .string r.Code, .int .i64 r.Kind] 27 := O6
  refine ops_nil ?_
  refine run_seq ?_
  refine run_region ?_
  refine ov (v := .agg #[.int .i64 r.Day, .string r.Code, .int .i64 r.Kind]) (xloadN Tryd.isAgg27 Tryd.sizeOf27 rfl (O6.cells) rfl) rfl rfl rfl ?_
  refine ostoreN (vs := _) Tryd.sizeOf27 rfl rfl O2 rfl (by simp) (by simp [Value.oneCell']) rfl ?_
  intro w7 on7 O7
  have hz7 := on7.size
  have E := on7.ext E (by omega)
  replace O1 := on7.own O1 (by omega)
  replace O6 := on7.own O6 (by omega)
  replace O7 : Own w7 b2 [.int .i64 r.Day, .string r.Code, .int .i64 r.Kind] 27 := O7
  refine ops_nil ?_
  refine run_ret Tryd.func8 (resc1 rfl rfl (run_loadVar_cells Tryd.isAgg27 Tryd.sizeOf27 O7.cells rfl)) ?_
  exact ⟨_, rfl, pv E⟩

set_option maxHeartbeats 400000 in
theorem eqRuling_ok (r s : Ruling) (w : World) : Ret Tryd.prog 12 [.agg #[.int .i64 r.Day, .string r.Code, .int .i64 r.Kind], .agg #[.int .i64 s.Day, .string s.Code, .int .i64 s.Kind]] w (Pv w (.bool (eqRuling r s))) := by
  refine ret_of_run (N := 20) Tryd.func12 rfl rfl rfl ?_
  have E : Ext w w := Ext.refl w
  refine run_seq ?_
  refine run_region ?_
  refine obox rfl rfl rfl ?_
  intro b1 w1 e1 hb1 hz1 O1
  have E := E.trans e1
  replace O1 : Own w1 b1 [.int .i64 r.Day, .string r.Code, .int .i64 r.Kind] 27 := O1
  refine obox rfl rfl rfl ?_
  intro b2 w2 e2 hb2 hz2 O2
  have E := E.trans e2
  replace O1 := O1.ext e2
  replace O2 : Own w2 b2 [.int .i64 s.Day, .string s.Code, .int .i64 s.Kind] 27 := O2
  refine ov (xassign rfl) rfl rfl rfl ?_
  refine ops_nil ?_
  refine run_seq ?_
  refine run_seq ?_
  refine run_region ?_
  refine ov (xfieldAddr fo27f0 rfl) rfl rfl rfl ?_
  refine ov (v := .int .i64 r.Day) (xload1 Tryd.isAgg2 rfl (O1.cells) rfl) rfl rfl rfl ?_
  refine ov (xfieldAddr fo27f0 rfl) rfl rfl rfl ?_
  refine ov (v := .int .i64 s.Day) (xload1 Tryd.isAgg2 rfl (O2.cells) rfl) rfl rfl rfl ?_
  refine ov (xneq rfl rfl _ rfl) rfl rfl rfl ?_
  refine ods (fun c9 => ?_) (fun c9 => ?_)
  ·
    refine ops_nil ?_
    refine run_cond_t rfl ?_
    refine run_seq ?_
    refine run_region ?_
    refine ov (xassign rfl) rfl rfl rfl ?_
    refine ops_nil ?_
    refine run_ret Tryd.func12 (res1 rfl rfl) ?_
    exact ⟨_, rfl, by simp_all [eqRuling], E⟩
  ·
    refine ops_nil ?_
    refine run_cond_f rfl ?_
    refine run_skip ?_
    refine run_seq ?_
    refine run_seq ?_
    refine run_region ?_
    refine ov (xfieldAddr fo27f1 rfl) rfl rfl rfl ?_
    refine ov (v := .string r.Code) (xload1 Tryd.isAgg9 rfl (O1.cells) rfl) rfl rfl rfl ?_
    refine ov (xfieldAddr fo27f1 rfl) rfl rfl rfl ?_
    refine ov (v := .string s.Code) (xload1 Tryd.isAgg9 rfl (O2.cells) rfl) rfl rfl rfl ?_
    refine ov (xsneq rfl rfl _ rfl) rfl rfl rfl ?_
    refine ods (fun c14 => ?_) (fun c14 => ?_)
    ·
      refine ops_nil ?_
      refine run_cond_t rfl ?_
      refine run_seq ?_
      refine run_region ?_
      refine ov (xassign rfl) rfl rfl rfl ?_
      refine ops_nil ?_
      refine run_ret Tryd.func12 (res1 rfl rfl) ?_
      exact ⟨_, rfl, by simp_all [eqRuling], E⟩
    ·
      refine ops_nil ?_
      refine run_cond_f rfl ?_
      refine run_skip ?_
      refine run_seq ?_
      refine run_seq ?_
      refine run_region ?_
      refine ov (xfieldAddr fo27f2 rfl) rfl rfl rfl ?_
      refine ov (v := .int .i64 r.Kind) (xload1 Tryd.isAgg2 rfl (O1.cells) rfl) rfl rfl rfl ?_
      refine ov (xfieldAddr fo27f2 rfl) rfl rfl rfl ?_
      refine ov (v := .int .i64 s.Kind) (xload1 Tryd.isAgg2 rfl (O2.cells) rfl) rfl rfl rfl ?_
      refine ov (xneq rfl rfl _ rfl) rfl rfl rfl ?_
      refine ods (fun c19 => ?_) (fun c19 => ?_)
      ·
        refine ops_nil ?_
        refine run_cond_t rfl ?_
        refine run_seq ?_
        refine run_region ?_
        refine ov (xassign rfl) rfl rfl rfl ?_
        refine ops_nil ?_
        refine run_ret Tryd.func12 (res1 rfl rfl) ?_
        exact ⟨_, rfl, by simp_all [eqRuling], E⟩
      ·
        refine ops_nil ?_
        refine run_cond_f rfl ?_
        refine run_skip ?_
        refine run_seq ?_
        refine run_region ?_
        refine ov (xassign rfl) rfl rfl rfl ?_
        refine ops_nil ?_
        refine run_ret Tryd.func12 (res1 rfl rfl) ?_
        exact ⟨_, rfl, by simp_all [eqRuling], E⟩
end Go.Proofs.YtnjohcbamblilaaDoor
