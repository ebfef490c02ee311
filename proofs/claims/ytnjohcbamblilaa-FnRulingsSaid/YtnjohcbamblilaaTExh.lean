/-
  The laws' own functions on exhibits. No condition beyond those written in each theorem.
-/
import Derived.Test.YtnjohcbamblilaaTHand
import Derived.Test.YtnjohcbamblilaaLists
namespace Go.Proofs.Ytnjohcbamblilaa
open Go.RowKit
set_option linter.unusedVariables false
set_option linter.unusedSimpArgs false
set_option linter.unusedSectionVars false
set_option maxRecDepth 4000

structure Exhibit where
  Code : ByteArray
  Found : ByteArray
  Day : Int
  Seal : Int
  Chain : List Handing
def Exhibit.ok (x : Exhibit) : Prop := x.Code.size ≤ 9223372036854775807 ∧ x.Found.size ≤ 9223372036854775807 ∧ I64 x.Day ∧ I64 x.Seal ∧ (∀ y ∈ x.Chain, y.ok)
def szExhibit (x : Exhibit) (l : Int) : Int := bnd (sub1 x.Code.size l) (fun l => bnd (sub1 x.Found.size l) (fun l => bnd (szS szHanding x.Chain l) (fun l => l)))
def eqExhibit (x y : Exhibit) : Bool := decide (x.Code = y.Code ∧ x.Found = y.Found ∧ x.Day = y.Day ∧ x.Seal = y.Seal) && eqL eqHanding x.Chain y.Chain
theorem eqExhibit_refl (x : Exhibit) : eqExhibit x x = true := by simp [eqExhibit, eqL_refl eqHanding_refl]




theorem szExhibit_nn {x : Exhibit} {l : Int} (h : 0 ≤ szExhibit x l) : szExhibit x l ≤ l ∧ (x.Chain.length : Int) ≤ l ∧ szExhibit x l + (x.Chain.length : Int) ≤ l := by
  unfold szExhibit at h ⊢
  obtain ⟨a0, e0⟩ := bnd_nn h
  rw [e0] at h ⊢
  clear e0
  try dsimp only at h ⊢
  have b0 := sub1_nn a0
  obtain ⟨a1, e1⟩ := bnd_nn h
  rw [e1] at h ⊢
  clear e1
  try dsimp only at h ⊢
  have b1 := sub1_nn a1
  obtain ⟨a2, e2⟩ := bnd_nn h
  rw [e2] at h ⊢
  clear e2
  try dsimp only at h ⊢
  have b2 := szS_len szHanding_le a2
  omega

set_option maxHeartbeats 400000 in
theorem szExhibit_ok (x : Exhibit) (l : Int) (w : World) (p_Chain : Option Addr) (n_Chain c_Chain : Nat) (H_Chain : Sl Handing.cells 4 w p_Chain n_Chain c_Chain x.Chain) (hx : x.ok) (h0 : 0 ≤ l) (h1 : l ≤ 1048576) : Ret Try.prog 31 [.agg #[.string x.Code, .string x.Found, .int .i64 x.Day, .int .i64 x.Seal, .slice p_Chain n_Chain c_Chain], .int .i64 l] w (Pv w (.int .i64 (szExhibit x l))) := by
  refine ret_of_run (N := 26) Try.func31 rfl rfl rfl ?_
  have hn_Chain := H_Chain.len
  have hn6_Chain := H_Chain.n64
  obtain ⟨o0, o1, o2, o3, o4⟩ := hx
  unfold I64 at *
  have E : Ext w w := Ext.refl w
  refine run_seq ?_
  refine run_region ?_
  refine obox rfl rfl rfl ?_
  intro b1 w1 e1 hb1 hz1 O1
  have E := E.trans e1
  replace O1 : Own w1 b1 [.string x.Code, .string x.Found, .int .i64 x.Day, .int .i64 x.Seal, .slice p_Chain n_Chain c_Chain] 43 := O1
  refine ov (xassign rfl) rfl rfl rfl ?_
  refine ops_nil ?_
  refine run_seq ?_
  refine run_region ?_
  refine ov (xmove rfl) rfl rfl rfl ?_
  refine ov (xfieldAddr fo43f0 rfl) rfl rfl rfl ?_
  refine ov (v := .string x.Code) (xload1 Try.isAgg9 rfl (O1.cells) rfl) rfl rfl rfl ?_
  refine ov (xlens Try.underlying9 rfl) rfl rfl rfl ?_
  refine ov (xsub rfl rfl (by unfold I64; omega)) rfl rfl rfl ?_
  refine ov (xassign rfl) rfl rfl rfl ?_
  refine ops_nil ?_
  refine run_seq ?_
  refine run_seq ?_
  refine run_region ?_
  refine ov (xmove rfl) rfl rfl rfl ?_
  refine ov (xlss rfl rfl _ rfl) rfl rfl rfl ?_
  refine ods (fun c11 => ?_) (fun c11 => ?_)
  ·
    refine ops_nil ?_
    refine run_cond_t rfl ?_
    refine run_seq ?_
    refine run_region ?_
    refine ov (xassign rfl) rfl rfl rfl ?_
    refine ops_nil ?_
    refine run_ret Try.func31 (res1 rfl rfl) ?_
    exact ⟨_, rfl, by unfold szExhibit bnd sub1; dsimp only; simp only [*, if_true, if_false, ↓reduceIte] <;> (try simp), E⟩
  ·
    refine ops_nil ?_
    refine run_cond_f rfl ?_
    refine run_skip ?_
    refine run_seq ?_
    refine run_region ?_
    refine ov (xmove rfl) rfl rfl rfl ?_
    refine ov (xfieldAddr fo43f1 rfl) rfl rfl rfl ?_
    refine ov (v := .string x.Found) (xload1 Try.isAgg9 rfl (O1.cells) rfl) rfl rfl rfl ?_
    refine ov (xlens Try.underlying9 rfl) rfl rfl rfl ?_
    refine ov (xsub rfl rfl (by unfold I64; omega)) rfl rfl rfl ?_
    refine ov (xassign rfl) rfl rfl rfl ?_
    refine ops_nil ?_
    refine run_seq ?_
    refine run_seq ?_
    refine run_region ?_
    refine ov (xmove rfl) rfl rfl rfl ?_
    refine ov (xlss rfl rfl _ rfl) rfl rfl rfl ?_
    refine ods (fun c18 => ?_) (fun c18 => ?_)
    ·
      refine ops_nil ?_
      refine run_cond_t rfl ?_
      refine run_seq ?_
      refine run_region ?_
      refine ov (xassign rfl) rfl rfl rfl ?_
      refine ops_nil ?_
      refine run_ret Try.func31 (res1 rfl rfl) ?_
      exact ⟨_, rfl, by unfold szExhibit bnd sub1; dsimp only; simp only [*, if_true, if_false, ↓reduceIte] <;> (try simp), E⟩
    ·
      refine ops_nil ?_
      refine run_cond_f rfl ?_
      refine run_skip ?_
      refine run_seq ?_
      refine run_region ?_
      refine ov (xfieldAddr fo43f4 rfl) rfl rfl rfl ?_
      refine ov (v := .slice p_Chain n_Chain c_Chain) (xload1 Try.isAgg41 rfl (O1.cells) rfl) rfl rfl rfl ?_
      refine ov (xmove rfl) rfl rfl rfl ?_
      refine oc (xcall Try.call100 rfl) rfl rfl rfl (szHandingS_ok _ _ _ _ _ _ (H_Chain.ext E) o4 (by omega) (by omega)) ?_
      rintro _ w2 ⟨rfl, e2⟩
      have z2 := e2.size
      have E := E.trans e2
      replace O1 := O1.ext e2
      refine ov (xassign rfl) rfl rfl rfl ?_
      refine ops_nil ?_
      refine run_seq ?_
      refine run_seq ?_
      refine run_region ?_
      refine ov (xmove rfl) rfl rfl rfl ?_
      refine ov (xlss rfl rfl _ rfl) rfl rfl rfl ?_
      refine ods (fun c24 => ?_) (fun c24 => ?_)
      ·
        refine ops_nil ?_
        refine run_cond_t rfl ?_
        refine run_seq ?_
        refine run_region ?_
        refine ov (xassign rfl) rfl rfl rfl ?_
        refine ops_nil ?_
        refine run_ret Try.func31 (res1 rfl rfl) ?_
        exact ⟨_, rfl, by unfold szExhibit bnd sub1; dsimp only; simp only [*, if_true, if_false, ↓reduceIte] <;> (try simp), E⟩
      ·
        refine ops_nil ?_
        refine run_cond_f rfl ?_
        refine run_skip ?_
        refine run_seq ?_
        refine run_region ?_
        refine ov (xmove rfl) rfl rfl rfl ?_
        refine ov (xassign rfl) rfl rfl rfl ?_
        refine ops_nil ?_
        refine run_ret Try.func31 (res1 rfl rfl) ?_
        exact ⟨_, rfl, by unfold szExhibit bnd sub1; dsimp only; simp only [*, if_true, if_false, ↓reduceIte] <;> (try simp), E⟩

set_option maxHeartbeats 400000 in
theorem toExhibit_ok (x : Exhibit) (w : World) (p_Chain : Option Addr) (n_Chain c_Chain : Nat) (H_Chain : Sl Handing.cells 4 w p_Chain n_Chain c_Chain x.Chain) (hs_Chain : n_Chain ≤ 1048576) : Ret Try.prog 33 [.agg #[.string x.Code, .string x.Found, .int .i64 x.Day, .int .i64 x.Seal, .slice p_Chain n_Chain c_Chain]] w (fun v w' => Ext w w' ∧ ∃ q_Chain, v = .agg #[.string x.Code, .string x.Found, .int .i64 x.Day, .int .i64 x.Seal, .slice (some q_Chain) n_Chain n_Chain] ∧ Ow Handing.cells 4 77 w' w.heap.size w'.heap.size (some q_Chain) n_Chain n_Chain x.Chain) := by
  refine ret_of_run (N := 21) Try.func33 rfl rfl rfl ?_
  have hn_Chain := H_Chain.len
  have hn6_Chain := H_Chain.n64
  have E : Ext w w := Ext.refl w
  refine run_seq ?_
  refine run_region ?_
  refine obox rfl rfl rfl ?_
  intro b1 w1 e1 hb1 hz1 O1
  have E := E.trans e1
  replace O1 : Own w1 b1 [.string x.Code, .string x.Found, .int .i64 x.Day, .int .i64 x.Seal, .slice p_Chain n_Chain c_Chain] 43 := O1
  refine oalloc Try.zeroValue49 rfl rfl ?_
  intro b2 w2 e2 hb2 hz2 O2
  have E := E.trans e2
  replace O1 := O1.ext e2
  replace O2 : Own w2 b2 [.string ⟨#[]⟩, .string ⟨#[]⟩, .int .i64 0, .int .i64 0, .slice none 0 0] 49 := O2
  refine ops_nil ?_
  refine run_seq ?_
  refine run_region ?_
  refine oalloc Try.zeroValue49 rfl rfl ?_
  intro b3 w3 e3 hb3 hz3 O3
  have E := E.trans e3
  replace O1 := O1.ext e3
  replace O2 := O2.ext e3
  replace O3 : Own w3 b3 [.string ⟨#[]⟩, .string ⟨#[]⟩, .int .i64 0, .int .i64 0, .slice none 0 0] 49 := O3
  refine ops_nil ?_
  refine run_seq ?_
  refine run_region ?_
  refine ov (xfieldAddr fo43f0 rfl) rfl rfl rfl ?_
  refine ov (v := .string x.Code) (xload1 Try.isAgg9 rfl (O1.cells) rfl) rfl rfl rfl ?_
  refine ov (xfieldAddr fo49f0 rfl) rfl rfl rfl ?_
  refine ostore1 Try.sizeOf9 rfl rfl O3 (by simp) rfl rfl ?_
  intro w4 on4 O4
  have hz4 := on4.size
  have E := on4.ext E (by omega)
  replace O1 := on4.own O1 (by omega)
  replace O2 := on4.own O2 (by omega)
  replace O4 : Own w4 b3 [.string x.Code, .string ⟨#[]⟩, .int .i64 0, .int .i64 0, .slice none 0 0] 49 := O4
  refine ops_nil ?_
  refine run_seq ?_
  refine run_region ?_
  refine ov (xfieldAddr fo43f1 rfl) rfl rfl rfl ?_
  refine ov (v := .string x.Found) (xload1 Try.isAgg9 rfl (O1.cells) rfl) rfl rfl rfl ?_
  refine ov (xfieldAddr fo49f1 rfl) rfl rfl rfl ?_
  refine ostore1 Try.sizeOf9 rfl rfl O4 (by simp) rfl rfl ?_
  intro w5 on5 O5
  have hz5 := on5.size
  have E := on5.ext E (by omega)
  replace O1 := on5.own O1 (by omega)
  replace O2 := on5.own O2 (by omega)
  replace O5 : Own w5 b3 [.string x.Code, .string x.Found, .int .i64 0, .int .i64 0, .slice none 0 0] 49 := O5
  refine ops_nil ?_
  refine run_seq ?_
  refine run_region ?_
  refine ov (xfieldAddr fo43f2 rfl) rfl rfl rfl ?_
  refine ov (v := .int .i64 x.Day) (xload1 Try.isAgg2 rfl (O1.cells) rfl) rfl rfl rfl ?_
  refine ov (xfieldAddr fo49f2 rfl) rfl rfl rfl ?_
  refine ostore1 Try.sizeOf2 rfl rfl O5 (by simp) rfl rfl ?_
  intro w6 on6 O6
  have hz6 := on6.size
  have E := on6.ext E (by omega)
  replace O1 := on6.own O1 (by omega)
  replace O2 := on6.own O2 (by omega)
  replace O6 : Own w6 b3 [.string x.Code, .string x.Found, .int .i64 x.Day, .int .i64 0, .slice none 0 0] 49 := O6
  refine ops_nil ?_
  refine run_seq ?_
  refine run_region ?_
  refine ov (xfieldAddr fo43f3 rfl) rfl rfl rfl ?_
  refine ov (v := .int .i64 x.Seal) (xload1 Try.isAgg2 rfl (O1.cells) rfl) rfl rfl rfl ?_
  refine ov (xfieldAddr fo49f3 rfl) rfl rfl rfl ?_
  refine ostore1 Try.sizeOf2 rfl rfl O6 (by simp) rfl rfl ?_
  intro w7 on7 O7
  have hz7 := on7.size
  have E := on7.ext E (by omega)
  replace O1 := on7.own O1 (by omega)
  replace O2 := on7.own O2 (by omega)
  replace O7 : Own w7 b3 [.string x.Code, .string x.Found, .int .i64 x.Day, .int .i64 x.Seal, .slice none 0 0] 49 := O7
  refine ops_nil ?_
  refine run_seq ?_
  refine run_region ?_
  refine ov (xfieldAddr fo43f4 rfl) rfl rfl rfl ?_
  refine ov (v := .slice p_Chain n_Chain c_Chain) (xload1 Try.isAgg41 rfl (O1.cells) rfl) rfl rfl rfl ?_
  refine oc (xcall Try.call104 rfl) rfl rfl rfl (toHandingS_ok _ _ _ _ _ (H_Chain.ext E) (by omega)) ?_
  rintro _ w8 ⟨e8, q18, rfl, G18⟩
  have z8 := e8.size
  have E := E.trans e8
  replace O1 := O1.ext e8
  replace O2 := O2.ext e8
  replace O7 := O7.ext e8
  refine ov (xfieldAddr fo49f4 rfl) rfl rfl rfl ?_
  refine ostore1 Try.sizeOf47 rfl rfl O7 (by simp) rfl rfl ?_
  intro w9 on9 O9
  have hz9 := on9.size
  have E := on9.ext E (by omega)
  replace G18 := G18.only on9 (by omega)
  replace O1 := on9.own O1 (by omega)
  replace O2 := on9.own O2 (by omega)
  replace O9 : Own w9 b3 [.string x.Code, .string x.Found, .int .i64 x.Day, .int .i64 x.Seal, .slice (some q18) n_Chain n_Chain] 49 := O9
  refine ops_nil ?_
  refine run_seq ?_
  refine run_region ?_
  refine ov (v := .agg #[.string x.Code, .string x.Found, .int .i64 x.Day, .int .i64 x.Seal, .slice (some q18) n_Chain n_Chain]) (xloadN Try.isAgg49 Try.sizeOf49 rfl (O9.cells) rfl) rfl rfl rfl ?_
  refine ostoreN (vs := _) Try.sizeOf49 rfl rfl O2 rfl (by simp) (by simp [Value.oneCell']) rfl ?_
  intro w10 on10 O10
  have hz10 := on10.size
  have E := on10.ext E (by omega)
  replace G18 := G18.only on10 (by omega)
  replace O1 := on10.own O1 (by omega)
  replace O9 := on10.own O9 (by omega)
  replace O10 : Own w10 b2 [.string x.Code, .string x.Found, .int .i64 x.Day, .int .i64 x.Seal, .slice (some q18) n_Chain n_Chain] 49 := O10
  refine ops_nil ?_
  refine run_ret Try.func33 (resc1 rfl rfl (run_loadVar_cells Try.isAgg49 Try.sizeOf49 O10.cells rfl)) ?_
  exact ⟨_, rfl, E, _, rfl, G18.wide (by omega) (by omega)⟩

set_option maxHeartbeats 400000 in
theorem eqExhibit_ok (x y : Exhibit) (w : World) (p1_Chain : Option Addr) (n1_Chain c1_Chain : Nat) (H1_Chain : Sl Handing.cells 4 w p1_Chain n1_Chain c1_Chain x.Chain) (p2_Chain : Option Addr) (n2_Chain c2_Chain : Nat) (H2_Chain : Sl Handing.cells 4 w p2_Chain n2_Chain c2_Chain y.Chain) : Ret Try.prog 35 [.agg #[.string x.Code, .string x.Found, .int .i64 x.Day, .int .i64 x.Seal, .slice p1_Chain n1_Chain c1_Chain], .agg #[.string y.Code, .string y.Found, .int .i64 y.Day, .int .i64 y.Seal, .slice p2_Chain n2_Chain c2_Chain]] w (Pv w (.bool (eqExhibit x y))) := by
  refine ret_of_run (N := 31) Try.func35 rfl rfl rfl ?_
  have hn1_Chain := H1_Chain.len
  have hn61_Chain := H1_Chain.n64
  have hn2_Chain := H2_Chain.len
  have hn62_Chain := H2_Chain.n64
  have E : Ext w w := Ext.refl w
  refine run_seq ?_
  refine run_region ?_
  refine obox rfl rfl rfl ?_
  intro b1 w1 e1 hb1 hz1 O1
  have E := E.trans e1
  replace O1 : Own w1 b1 [.string x.Code, .string x.Found, .int .i64 x.Day, .int .i64 x.Seal, .slice p1_Chain n1_Chain c1_Chain] 49 := O1
  refine obox rfl rfl rfl ?_
  intro b2 w2 e2 hb2 hz2 O2
  have E := E.trans e2
  replace O1 := O1.ext e2
  replace O2 : Own w2 b2 [.string y.Code, .string y.Found, .int .i64 y.Day, .int .i64 y.Seal, .slice p2_Chain n2_Chain c2_Chain] 49 := O2
  refine ov (xassign rfl) rfl rfl rfl ?_
  refine ops_nil ?_
  refine run_seq ?_
  refine run_seq ?_
  refine run_region ?_
  refine ov (xfieldAddr fo49f0 rfl) rfl rfl rfl ?_
  refine ov (v := .string x.Code) (xload1 Try.isAgg9 rfl (O1.cells) rfl) rfl rfl rfl ?_
  refine ov (xfieldAddr fo49f0 rfl) rfl rfl rfl ?_
  refine ov (v := .string y.Code) (xload1 Try.isAgg9 rfl (O2.cells) rfl) rfl rfl rfl ?_
  refine ov (xsneq rfl rfl _ rfl) rfl rfl rfl ?_
  refine ods (fun c9 => ?_) (fun c9 => ?_)
  ·
    refine ops_nil ?_
    refine run_cond_t rfl ?_
    refine run_seq ?_
    refine run_region ?_
    refine ov (xassign rfl) rfl rfl rfl ?_
    refine ops_nil ?_
    refine run_ret Try.func35 (res1 rfl rfl) ?_
    exact ⟨_, rfl, by simp_all [eqExhibit], E⟩
  ·
    refine ops_nil ?_
    refine run_cond_f rfl ?_
    refine run_skip ?_
    refine run_seq ?_
    refine run_seq ?_
    refine run_region ?_
    refine ov (xfieldAddr fo49f1 rfl) rfl rfl rfl ?_
    refine ov (v := .string x.Found) (xload1 Try.isAgg9 rfl (O1.cells) rfl) rfl rfl rfl ?_
    refine ov (xfieldAddr fo49f1 rfl) rfl rfl rfl ?_
    refine ov (v := .string y.Found) (xload1 Try.isAgg9 rfl (O2.cells) rfl) rfl rfl rfl ?_
    refine ov (xsneq rfl rfl _ rfl) rfl rfl rfl ?_
    refine ods (fun c14 => ?_) (fun c14 => ?_)
    ·
      refine ops_nil ?_
      refine run_cond_t rfl ?_
      refine run_seq ?_
      refine run_region ?_
      refine ov (xassign rfl) rfl rfl rfl ?_
      refine ops_nil ?_
      refine run_ret Try.func35 (res1 rfl rfl) ?_
      exact ⟨_, rfl, by simp_all [eqExhibit], E⟩
    ·
      refine ops_nil ?_
      refine run_cond_f rfl ?_
      refine run_skip ?_
      refine run_seq ?_
      refine run_seq ?_
      refine run_region ?_
      refine ov (xfieldAddr fo49f2 rfl) rfl rfl rfl ?_
      refine ov (v := .int .i64 x.Day) (xload1 Try.isAgg2 rfl (O1.cells) rfl) rfl rfl rfl ?_
      refine ov (xfieldAddr fo49f2 rfl) rfl rfl rfl ?_
      refine ov (v := .int .i64 y.Day) (xload1 Try.isAgg2 rfl (O2.cells) rfl) rfl rfl rfl ?_
      refine ov (xneq rfl rfl _ rfl) rfl rfl rfl ?_
      refine ods (fun c19 => ?_) (fun c19 => ?_)
      ·
        refine ops_nil ?_
        refine run_cond_t rfl ?_
        refine run_seq ?_
        refine run_region ?_
        refine ov (xassign rfl) rfl rfl rfl ?_
        refine ops_nil ?_
        refine run_ret Try.func35 (res1 rfl rfl) ?_
        exact ⟨_, rfl, by simp_all [eqExhibit], E⟩
      ·
        refine ops_nil ?_
        refine run_cond_f rfl ?_
        refine run_skip ?_
        refine run_seq ?_
        refine run_seq ?_
        refine run_region ?_
        refine ov (xfieldAddr fo49f3 rfl) rfl rfl rfl ?_
        refine ov (v := .int .i64 x.Seal) (xload1 Try.isAgg2 rfl (O1.cells) rfl) rfl rfl rfl ?_
        refine ov (xfieldAddr fo49f3 rfl) rfl rfl rfl ?_
        refine ov (v := .int .i64 y.Seal) (xload1 Try.isAgg2 rfl (O2.cells) rfl) rfl rfl rfl ?_
        refine ov (xneq rfl rfl _ rfl) rfl rfl rfl ?_
        refine ods (fun c24 => ?_) (fun c24 => ?_)
        ·
          refine ops_nil ?_
          refine run_cond_t rfl ?_
          refine run_seq ?_
          refine run_region ?_
          refine ov (xassign rfl) rfl rfl rfl ?_
          refine ops_nil ?_
          refine run_ret Try.func35 (res1 rfl rfl) ?_
          exact ⟨_, rfl, by simp_all [eqExhibit], E⟩
        ·
          refine ops_nil ?_
          refine run_cond_f rfl ?_
          refine run_skip ?_
          refine run_seq ?_
          refine run_seq ?_
          refine run_region ?_
          refine ov (xfieldAddr fo49f4 rfl) rfl rfl rfl ?_
          refine ov (v := .slice p1_Chain n1_Chain c1_Chain) (xload1 Try.isAgg47 rfl (O1.cells) rfl) rfl rfl rfl ?_
          refine ov (xfieldAddr fo49f4 rfl) rfl rfl rfl ?_
          refine ov (v := .slice p2_Chain n2_Chain c2_Chain) (xload1 Try.isAgg47 rfl (O2.cells) rfl) rfl rfl rfl ?_
          refine oc (xcall Try.call108 rfl) rfl rfl rfl (eqHandingS_ok _ _ _ _ _ _ _ _ _ (H1_Chain.ext E) (H2_Chain.ext E)) ?_
          rintro _ w3 ⟨rfl, e3⟩
          have z3 := e3.size
          have E := E.trans e3
          replace O1 := O1.ext e3
          replace O2 := O2.ext e3
          refine obs (fun c29 => ?_) (fun c29 => ?_)
          ·
            refine ov (xnot rfl) rfl rfl rfl ?_
            refine ops_nil ?_
            refine run_cond_f rfl ?_
            refine run_skip ?_
            refine run_seq ?_
            refine run_region ?_
            refine ov (xassign rfl) rfl rfl rfl ?_
            refine ops_nil ?_
            refine run_ret Try.func35 (res1 rfl rfl) ?_
            exact ⟨_, rfl, by simp_all [eqExhibit], E⟩
          ·
            refine ov (xnot rfl) rfl rfl rfl ?_
            refine ops_nil ?_
            refine run_cond_t rfl ?_
            refine run_seq ?_
            refine run_region ?_
            refine ov (xassign rfl) rfl rfl rfl ?_
            refine ops_nil ?_
            refine run_ret Try.func35 (res1 rfl rfl) ?_
            exact ⟨_, rfl, by simp_all [eqExhibit], E⟩
end Go.Proofs.Ytnjohcbamblilaa
