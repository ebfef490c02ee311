/-
  The text of a value, and setting one. No condition beyond those written in each theorem.
-/
import Derived.Test.YtgbedilaiefcbaaVals
namespace Go.Proofs.Ytgbedilaiefcbaa
open Go.RowKit
set_option linter.unusedVariables false
set_option linter.unusedSimpArgs false
set_option linter.unusedSectionVars false
set_option maxRecDepth 4000

theorem textOf_f {xs : List Val} {name : ByteArray} (h : (textOf xs name).2 = false) : findV xs name < 0 := by
  unfold textOf at h; split at h
  · assumption
  · cases h
theorem textOf_t {xs : List Val} {name : ByteArray} (h : (textOf xs name).2 = true) : ¬ findV xs name < 0 ∧ (textOf xs name).1 = (getVal xs (findV xs name)).Text := by
  unfold textOf at h ⊢; split at h
  · cases h
  · rename_i hn; rw [if_neg hn]; exact ⟨hn, rfl⟩

set_option maxHeartbeats 400000 in
theorem ValueOf_ok (p : Option Addr) (n c : Nat) (xs : List Val) (name : ByteArray) (w : World) (H : Sl Val.cells 2 w p n c xs) (hx : ∀ x ∈ xs, x.ok) : Ret Try.prog 17 [.slice p n c, .string name] w (Pv w (.tuple #[.string (valueOf xs name).1, .int .i64 (valueOf xs name).2])) := by
  refine ret_of_run (N := 20) Try.func17 rfl rfl rfl ?_
  have hn := H.len
  have hn6 := H.n64
  have E : Ext w w := Ext.refl w
  refine run_seq ?_
  refine run_region ?_
  refine ov (xassign rfl) rfl rfl rfl ?_
  refine ov (xassign rfl) rfl rfl rfl ?_
  refine ops_nil ?_
  refine run_seq ?_
  refine run_seq ?_
  refine run_region ?_
  refine ov (xmove rfl) rfl rfl rfl ?_
  refine oc (xcall Try.call14 rfl) rfl rfl rfl (AreValues_ok _ _ _ _ _ (H.ext E) (by assumption)) ?_
  rintro _ w1 ⟨rfl, e1⟩
  have z1 := e1.size
  have E := E.trans e1
  refine obs (fun c9 => ?_) (fun c9 => ?_)
  ·
    refine ov (xnot rfl) rfl rfl rfl ?_
    refine ops_nil ?_
    refine run_cond_f rfl ?_
    refine run_skip ?_
    refine run_seq ?_
    refine run_region ?_
    refine ov (xmove rfl) rfl rfl rfl ?_
    refine ov (xmove rfl) rfl rfl rfl ?_
    refine oc (xcall Try.call49 rfl) rfl rfl rfl (textOf_ok _ _ _ _ (name) _ (H.ext E)) ?_
    rintro _ w2 ⟨rfl, e2⟩
    have z2 := e2.size
    have E := E.trans e2
    refine ov (xmove rfl) rfl rfl rfl ?_
    refine ov (xextract rfl rfl) rfl rfl rfl ?_
    refine ov (xextract rfl rfl) rfl rfl rfl ?_
    refine obs (fun c16 => ?_) (fun c16 => ?_)
    ·
      refine ov (xassign rfl) rfl rfl rfl ?_
      refine ov (xassign rfl) rfl rfl rfl ?_
      refine ops_nil ?_
      refine run_seq ?_
      refine run_seq ?_
      refine run_region ?_
      refine ov (xmove rfl) rfl rfl rfl ?_
      refine ov (xnot rfl) rfl rfl rfl ?_
      refine ops_nil ?_
      refine run_cond_f rfl ?_
      refine run_skip ?_
      refine run_seq ?_
      refine run_region ?_
      refine ov (xmove rfl) rfl rfl rfl ?_
      refine ov (xassign rfl) rfl rfl rfl ?_
      refine ov (xassign rfl) rfl rfl rfl ?_
      refine ops_nil ?_
      refine run_ret Try.func17 (res2 rfl rfl rfl) ?_
      exact ⟨_, rfl, by rw [valueOf, if_neg (by simp [c9]), if_neg (textOf_t c16).1, (textOf_t c16).2], E⟩
    ·
      refine ov (xassign rfl) rfl rfl rfl ?_
      refine ov (xassign rfl) rfl rfl rfl ?_
      refine ops_nil ?_
      refine run_seq ?_
      refine run_seq ?_
      refine run_region ?_
      refine ov (xmove rfl) rfl rfl rfl ?_
      refine ov (xnot rfl) rfl rfl rfl ?_
      refine ops_nil ?_
      refine run_cond_t rfl ?_
      refine run_seq ?_
      refine run_region ?_
      refine ov (xassign rfl) rfl rfl rfl ?_
      refine ov (xassign rfl) rfl rfl rfl ?_
      refine ops_nil ?_
      refine run_ret Try.func17 (res2 rfl rfl rfl) ?_
      exact ⟨_, rfl, by rw [valueOf, if_neg (by simp [c9]), if_pos (textOf_f c16)], E⟩
  ·
    refine ov (xnot rfl) rfl rfl rfl ?_
    refine ops_nil ?_
    refine run_cond_t rfl ?_
    refine run_seq ?_
    refine run_region ?_
    refine ov (xassign rfl) rfl rfl rfl ?_
    refine ov (xassign rfl) rfl rfl rfl ?_
    refine ops_nil ?_
    refine run_ret Try.func17 (res2 rfl rfl rfl) ?_
    exact ⟨_, rfl, by rw [valueOf, if_pos c9], E⟩

set_option maxHeartbeats 400000 in
theorem sValueOf_ok (p : Option Addr) (n c : Nat) (xs : List Val) (name : ByteArray) (w : World) (H : Sl Val.cells 2 w p n c xs) (hx : ∀ x ∈ xs, x.ok) : Ret Try.prog 16 [.slice p n c, .string name] w (Pv w (.tuple #[.string (valueOf xs name).1, .int .i64 (valueOf xs name).2])) := by
  refine ret_of_run (N := 20) Try.func16 rfl rfl rfl ?_
  have hn := H.len
  have hn6 := H.n64
  have hfv := findV_lt xs name
  have E : Ext w w := Ext.refl w
  refine run_seq ?_
  refine run_region ?_
  refine ov (xassign rfl) rfl rfl rfl ?_
  refine ov (xassign rfl) rfl rfl rfl ?_
  refine ops_nil ?_
  refine run_seq ?_
  refine run_seq ?_
  refine run_region ?_
  refine ov (xmove rfl) rfl rfl rfl ?_
  refine oc (xcall Try.call12 rfl) rfl rfl rfl (sAreValues_ok _ _ _ _ _ (H.ext E) (by assumption)) ?_
  rintro _ w1 ⟨rfl, e1⟩
  have z1 := e1.size
  have E := E.trans e1
  refine obs (fun c8 => ?_) (fun c8 => ?_)
  ·
    refine ov (xnot rfl) rfl rfl rfl ?_
    refine ops_nil ?_
    refine run_cond_f rfl ?_
    refine run_skip ?_
    refine run_seq ?_
    refine run_region ?_
    refine ov (xmove rfl) rfl rfl rfl ?_
    refine ov (xmove rfl) rfl rfl rfl ?_
    refine oc (xcall Try.call41 rfl) rfl rfl rfl (l28Find_ok _ _ _ _ (name) _ (H.ext E)) ?_
    rintro _ w2 ⟨rfl, e2⟩
    have z2 := e2.size
    have E := E.trans e2
    refine ov (xassign rfl) rfl rfl rfl ?_
    refine ops_nil ?_
    refine run_seq ?_
    refine run_seq ?_
    refine run_region ?_
    refine ov (xmove rfl) rfl rfl rfl ?_
    refine ov (xlss rfl rfl _ rfl) rfl rfl rfl ?_
    refine ods (fun c14 => ?_) (fun c14 => ?_)
    ·
      refine ops_nil ?_
      refine run_cond_t rfl ?_
      refine run_seq ?_
      refine run_region ?_
      refine ov (xassign rfl) rfl rfl rfl ?_
      refine ov (xassign rfl) rfl rfl rfl ?_
      refine ops_nil ?_
      refine run_ret Try.func16 (res2 rfl rfl rfl) ?_
      exact ⟨_, rfl, by rw [valueOf, if_neg (by simp [c8]), if_pos c14], E⟩
    ·
      refine ops_nil ?_
      refine run_cond_f rfl ?_
      refine run_skip ?_
      refine run_seq ?_
      refine run_region ?_
      refine ov (xmove rfl) rfl rfl rfl ?_
      refine ov (xmove rfl) rfl rfl rfl ?_
      have h17 := (H.ext E).at (i := (findV xs name).toNat) (by omega)
      refine ov (xindexN (i := (findV xs name).toNat) Try.underlying25 Try.sizeOf37 rfl rfl (by omega) ((H.ext E).p (i := (findV xs name).toNat) (by omega)) (by have := (H.ext E).len; omega)) rfl rfl rfl ?_
      refine ov (xfieldAddr fo37f1 rfl) rfl rfl rfl ?_
      refine ov (v := .string xs[(findV xs name).toNat].Text) (xload1 Try.isAgg9 rfl (h17) rfl) rfl rfl rfl ?_
      refine ov (xassign rfl) rfl rfl rfl ?_
      refine ov (xassign rfl) rfl rfl rfl ?_
      refine ops_nil ?_
      refine run_ret Try.func16 (res2 rfl rfl rfl) ?_
      exact ⟨_, rfl, by rw [valueOf, if_neg (by simp [c8]), if_neg c14, getVal_eq (by omega)], E⟩
  ·
    refine ov (xnot rfl) rfl rfl rfl ?_
    refine ops_nil ?_
    refine run_cond_t rfl ?_
    refine run_seq ?_
    refine run_region ?_
    refine ov (xassign rfl) rfl rfl rfl ?_
    refine ov (xassign rfl) rfl rfl rfl ?_
    refine ops_nil ?_
    refine run_ret Try.func16 (res2 rfl rfl rfl) ?_
    exact ⟨_, rfl, by rw [valueOf, if_pos c8], E⟩

set_option maxHeartbeats 400000 in
theorem cloneVal_ok (p : Option Addr) (n c : Nat) (xs : List Val) (w : World) (H : Sl Val.cells 2 w p n c xs) (hp : p = none → c = 0) (hn2 : n ≤ 1000000000) : Ret Try.prog 50 [.slice p n c] w (fun v w' => Ext w w' ∧ ∃ q c', v = .slice q n c' ∧ Ow Val.cells 2 37 w' w.heap.size w'.heap.size q n c' xs) := by
  refine ret_of_run (N := 8) Try.func50 rfl rfl rfl ?_
  have hn := H.len
  have E : Ext w w := Ext.refl w
  refine run_seq ?_
  refine run_region ?_
  refine ov (xassign rfl) rfl rfl rfl ?_
  refine ops_nil ?_
  refine run_seq ?_
  refine run_region ?_
  refine ov (xmove rfl) rfl rfl rfl ?_
  refine ov (xlen Try.underlying25 rfl) rfl rfl rfl ?_
  refine omake0 Val.cells (sz := 2) (n := n) Try.underlying25 inf37 rfl rfl rfl rfl rfl (by simp only [Try.t37]; omega) (by omega) rfl rfl ?_
  intro b1 w1 e1 hb1 hz1 G1
  have E := E.trans e1
  refine ov (xmove rfl) rfl rfl rfl ?_
  refine oapp (bytes := 32) (nm := n) G1 rfl rfl elem37 (H.ext E) hp (by intro y hy; rfl) (by intro y hy u hu; simp only [Val.cells, List.mem_cons, List.not_mem_nil, or_false] at hu; rcases hu with rfl | rfl <;> rfl) (by omega) (by omega) (by omega) (by omega) rfl rfl ?_
  intro p2 c2_ w2 m2 G2
  have hz2 := m2.size
  have E := m2.toExt E (by omega)
  refine ov (xassign rfl) rfl rfl rfl ?_
  refine ops_nil ?_
  refine run_ret Try.func50 (res1 rfl rfl) ?_
  exact ⟨_, rfl, E, _, _, rfl, G2.wide (by omega) (by omega)⟩

theorem setV_app {xs : List Val} {v : Val} (h : findV xs v.Name < 0) : xs ++ [v] = setV xs v := by rw [setV, if_pos h]
theorem setV_set {xs : List Val} {v : Val} (h : ¬ findV xs v.Name < 0) : xs.set (findV xs v.Name).toNat v = setV xs v := by rw [setV, if_neg h]

set_option maxHeartbeats 2000000 in
theorem SetValue_ok (p : Option Addr) (n c : Nat) (xs : List Val) (r : Val) (w : World) (H : Sl Val.cells 2 w p n c xs) (hx : ∀ x ∈ xs, x.ok) (hr : r.ok) (hp : p = none → c = 0) : Ret Try.prog 21 [.slice p n c, .agg #[.string r.Name, .string r.Text]] w (fun v w' => Ext w w' ∧ ∃ q m d, v = .tuple #[.slice q m d, .int .i64 (setValue xs r).2] ∧ Ow Val.cells 2 37 w' w.heap.size w'.heap.size q m d (setValue xs r).1) := by
  refine ret_of_run (N := 30) Try.func21 rfl rfl rfl ?_
  have hn := H.len
  have hn6 := H.n64
  have hfv := findV_lt xs r.Name
  have hfs : findI (sameName r) xs = findV xs r.Name := rfl
  have hnl : (([] : List Val) ++ xs).length = xs.length := by simp
  have E : Ext w w := Ext.refl w
  refine run_seq ?_
  refine run_region ?_
  refine obox rfl rfl rfl ?_
  intro b1 w1 e1 hb1 hz1 O1
  have E := E.trans e1
  replace O1 : Own w1 b1 [.string r.Name, .string r.Text] 37 := O1
  refine ov (xassign rfl) rfl rfl rfl ?_
  refine ov (xassign rfl) rfl rfl rfl ?_
  refine ops_nil ?_
  refine run_seq ?_
  refine run_seq ?_
  refine run_region ?_
  refine ov (xmove rfl) rfl rfl rfl ?_
  refine oc (xcall Try.call14 rfl) rfl rfl rfl (AreValues_ok _ _ _ _ _ (H.ext E) (by assumption)) ?_
  rintro _ w2 ⟨rfl, e2⟩
  have z2 := e2.size
  have E := E.trans e2
  replace O1 := O1.ext e2
  refine obs (fun c9 => ?_) (fun c9 => ?_)
  ·
    have hvl := areValues_len c9
    refine ov (xnot rfl) rfl rfl rfl ?_
    refine ops_nil ?_
    refine run_cond_f rfl ?_
    refine run_skip ?_
    refine run_seq ?_
    refine run_region ?_
    refine ov (xmove rfl) rfl rfl rfl ?_
    refine oc (xcall Try.call50 rfl) rfl rfl rfl (cloneVal_ok _ _ _ _ _ (H.ext E) hp (by omega)) ?_
    rintro _ w3 ⟨e3, q12, c12_, rfl, G12⟩
    have z3 := e3.size
    have E := E.trans e3
    replace O1 := O1.ext e3
    refine ov (xassign rfl) rfl rfl rfl ?_
    refine ops_nil ?_
    refine run_seq ?_
    refine run_region ?_
    refine ov (xmove rfl) rfl rfl rfl ?_
    refine ov (xmakeFunc rfl rfl) rfl rfl rfl ?_
    refine oc (xcall Try.call51 rfl) rfl rfl rfl (IndexFuncValue_ok _ _ _ _ _ (G12.sl) 52 [.pointer (some ⟨b1, 0, none⟩)] (sameName r) Try.call52 (fun w2 x2 i2 hi2 => SetValue1_ok _ _ _ _ (O1.ext x2))) ?_
    rintro _ w4 ⟨rfl, e4⟩
    have z4 := e4.size
    have E := E.trans e4
    replace G12 := G12.ext e4
    replace O1 := O1.ext e4
    refine ov (xassign rfl) rfl rfl rfl ?_
    refine ops_nil ?_
    refine run_seq ?_
    refine run_seq ?_
    refine run_region ?_
    refine ov (xmove rfl) rfl rfl rfl ?_
    refine ov (xlss rfl rfl _ rfl) rfl rfl rfl ?_
    refine ods (fun c17 => ?_) (fun c17 => ?_)
    ·
      have hsv := setV_app c17
      refine ops_nil ?_
      refine run_cond_t rfl ?_
      refine run_region ?_
      refine ov (xmove rfl) rfl rfl rfl ?_
      refine ov (v := .agg #[.string r.Name, .string r.Text]) (xloadN Try.isAgg37 Try.sizeOf37 rfl (O1.cells) rfl) rfl rfl rfl ?_
      refine obuild (cs := [.string r.Name, .string r.Text]) (sz := 2) Try.underlying25 inf37 rfl rfl (by decide) rfl rfl (by simp [Value.cells]) rfl rfl rfl ?_
      intro b5 w5 e5 hb5 hz5 O5
      have E := E.trans e5
      replace G12 := G12.ext e5
      replace O1 := O1.ext e5
      refine oapp (bytes := 32) (nm := (n + 1)) G12 rfl rfl elem37 (Own.sl1 (y := r) O5) (by intro h; cases h) (by intro y hy; rfl) (by intro y hy u hu; rw [List.mem_singleton] at hy; subst hy; revert u; simp [Value.oneCell', Val.cells]) (by omega) (by omega) (by omega) (by omega) rfl rfl ?_
      intro p6 c6_ w6 m6 G6
      have hz6 := m6.size
      have E := m6.toExt E (by omega)
      try replace O1 := m6.own O1 (by omega)
      try replace O5 := m6.own O5 (by omega)
      refine ov (xassign rfl) rfl rfl rfl ?_
      refine ops_nil ?_
      refine run_seq ?_
      refine run_seq ?_
      refine run_region ?_
      refine ov (xmove rfl) rfl rfl rfl ?_
      refine oc (xcall Try.call14 rfl) rfl rfl rfl (AreValues_ok _ _ _ (setV xs r) _ (hsv ▸ (G6.sl)) (setV_ok hx hr)) ?_
      rintro _ w7 ⟨rfl, e7⟩
      have z7 := e7.size
      have E := E.trans e7
      replace G6 := G6.ext e7
      replace O1 := O1.ext e7
      replace O5 := O5.ext e7
      refine obs (fun c27 => ?_) (fun c27 => ?_)
      ·
        refine ov (xnot rfl) rfl rfl rfl ?_
        refine ops_nil ?_
        refine run_cond_f rfl ?_
        refine run_skip ?_
        refine run_seq ?_
        refine run_region ?_
        refine ov (xmove rfl) rfl rfl rfl ?_
        refine ov (xassign rfl) rfl rfl rfl ?_
        refine ov (xassign rfl) rfl rfl rfl ?_
        refine ops_nil ?_
        refine run_ret Try.func21 (res2 rfl rfl rfl) ?_
        have he : setValue xs r = (setV xs r, 0) := by rw [setValue, if_neg (by simp [c9]), if_neg (by simp [c27])]
        exact ⟨_, rfl, E, _, _, _, by rw [he], by rw [he]; exact (hsv ▸ G6).wide (by omega) (by omega)⟩
      ·
        refine ov (xnot rfl) rfl rfl rfl ?_
        refine ops_nil ?_
        refine run_cond_t rfl ?_
        refine run_seq ?_
        refine run_region ?_
        refine ov (xassign rfl) rfl rfl rfl ?_
        refine ov (xassign rfl) rfl rfl rfl ?_
        refine ops_nil ?_
        refine run_ret Try.func21 (res2 rfl rfl rfl) ?_
        have he : setValue xs r = ([], 5) := by rw [setValue, if_neg (by simp [c9]), if_pos (by simp [c27])]
        exact ⟨_, rfl, E, none, 0, 0, by rw [he], by rw [he]; exact Ow.none _ _ _ _ _ _⟩
    ·
      have hsv := setV_set c17
      refine ops_nil ?_
      refine run_cond_f rfl ?_
      refine run_region ?_
      refine ov (xmove rfl) rfl rfl rfl ?_
      refine ov (xmove rfl) rfl rfl rfl ?_
      refine ov (v := .agg #[.string r.Name, .string r.Text]) (xloadN Try.isAgg37 Try.sizeOf37 rfl (O1.cells) rfl) rfl rfl rfl ?_
      have h25 := (G12.sl).at (i := (findV xs r.Name).toNat) (by omega)
      refine ov (xindexN (i := (findV xs r.Name).toNat) Try.underlying25 Try.sizeOf37 rfl rfl (by omega) ((G12.sl).p (i := (findV xs r.Name).toNat) (by omega)) (by have := (G12.sl).len; omega)) rfl rfl rfl ?_
      refine ostoreOwN (i := (findV xs r.Name).toNat) (y := r) (vs := [.string r.Name, .string r.Text]) Try.sizeOf37 G12 (by omega) rfl rfl rfl rfl (by simp [Value.oneCell']) rfl ?_
      intro w5 m5 g5
      have z5 := m5.size
      have E := m5.toExt E (by omega)
      try replace O1 := m5.own O1 (by omega)
      replace G12 := g5
      refine ops_nil ?_
      refine run_seq ?_
      refine run_seq ?_
      refine run_region ?_
      refine ov (xmove rfl) rfl rfl rfl ?_
      refine oc (xcall Try.call14 rfl) rfl rfl rfl (AreValues_ok _ _ _ (setV xs r) _ (hsv ▸ (G12.sl)) (setV_ok hx hr)) ?_
      rintro _ w6 ⟨rfl, e6⟩
      have z6 := e6.size
      have E := E.trans e6
      replace G12 := G12.ext e6
      replace O1 := O1.ext e6
      refine obs (fun c27 => ?_) (fun c27 => ?_)
      ·
        refine ov (xnot rfl) rfl rfl rfl ?_
        refine ops_nil ?_
        refine run_cond_f rfl ?_
        refine run_skip ?_
        refine run_seq ?_
        refine run_region ?_
        refine ov (xmove rfl) rfl rfl rfl ?_
        refine ov (xassign rfl) rfl rfl rfl ?_
        refine ov (xassign rfl) rfl rfl rfl ?_
        refine ops_nil ?_
        refine run_ret Try.func21 (res2 rfl rfl rfl) ?_
        have he : setValue xs r = (setV xs r, 0) := by rw [setValue, if_neg (by simp [c9]), if_neg (by simp [c27])]
        exact ⟨_, rfl, E, _, _, _, by rw [he], by rw [he]; exact (hsv ▸ G12).wide (by omega) (by omega)⟩
      ·
        refine ov (xnot rfl) rfl rfl rfl ?_
        refine ops_nil ?_
        refine run_cond_t rfl ?_
        refine run_seq ?_
        refine run_region ?_
        refine ov (xassign rfl) rfl rfl rfl ?_
        refine ov (xassign rfl) rfl rfl rfl ?_
        refine ops_nil ?_
        refine run_ret Try.func21 (res2 rfl rfl rfl) ?_
        have he : setValue xs r = ([], 5) := by rw [setValue, if_neg (by simp [c9]), if_pos (by simp [c27])]
        exact ⟨_, rfl, E, none, 0, 0, by rw [he], by rw [he]; exact Ow.none _ _ _ _ _ _⟩
  ·
    refine ov (xnot rfl) rfl rfl rfl ?_
    refine ops_nil ?_
    refine run_cond_t rfl ?_
    refine run_seq ?_
    refine run_region ?_
    refine ov (xassign rfl) rfl rfl rfl ?_
    refine ov (xassign rfl) rfl rfl rfl ?_
    refine ops_nil ?_
    refine run_ret Try.func21 (res2 rfl rfl rfl) ?_
    have he : setValue xs r = ([], 1) := by rw [setValue, if_pos c9]
    exact ⟨_, rfl, E, none, 0, 0, by rw [he], by rw [he]; exact Ow.none _ _ _ _ _ _⟩

set_option maxHeartbeats 2000000 in
theorem sSetValue_ok (p : Option Addr) (n c : Nat) (xs : List Val) (r : Val) (w : World) (H : Sl Val.cells 2 w p n c xs) (hx : ∀ x ∈ xs, x.ok) (hr : r.ok) (hp : p = none → c = 0) : Ret Try.prog 19 [.slice p n c, .agg #[.string r.Name, .string r.Text]] w (fun v w' => Ext w w' ∧ ∃ q m d, v = .tuple #[.slice q m d, .int .i64 (setValue xs r).2] ∧ Ow Val.cells 2 37 w' w.heap.size w'.heap.size q m d (setValue xs r).1) := by
  refine ret_of_run (N := 32) Try.func19 rfl rfl rfl ?_
  have hn := H.len
  have hn6 := H.n64
  have hfv := findV_lt xs r.Name
  have hfs : findI (sameName r) xs = findV xs r.Name := rfl
  have hnl : (([] : List Val) ++ xs).length = xs.length := by simp
  have E : Ext w w := Ext.refl w
  refine run_seq ?_
  refine run_region ?_
  refine obox rfl rfl rfl ?_
  intro b1 w1 e1 hb1 hz1 O1
  have E := E.trans e1
  replace O1 : Own w1 b1 [.string r.Name, .string r.Text] 37 := O1
  refine ov (xassign rfl) rfl rfl rfl ?_
  refine ov (xassign rfl) rfl rfl rfl ?_
  refine ops_nil ?_
  refine run_seq ?_
  refine run_seq ?_
  refine run_region ?_
  refine ov (xmove rfl) rfl rfl rfl ?_
  refine oc (xcall Try.call12 rfl) rfl rfl rfl (sAreValues_ok _ _ _ _ _ (H.ext E) (by assumption)) ?_
  rintro _ w2 ⟨rfl, e2⟩
  have z2 := e2.size
  have E := E.trans e2
  replace O1 := O1.ext e2
  refine obs (fun c9 => ?_) (fun c9 => ?_)
  ·
    have hvl := areValues_len c9
    refine ov (xnot rfl) rfl rfl rfl ?_
    refine ops_nil ?_
    refine run_cond_f rfl ?_
    refine run_skip ?_
    refine run_seq ?_
    refine run_region ?_
    refine obuild (cs := []) (sz := 2) Try.underlying25 inf37 rfl rfl (by decide) rfl rfl (by simp [Value.cells]) rfl rfl rfl ?_
    intro b3 w3 e3 hb3 hz3 O3
    have E := E.trans e3
    replace O1 := O1.ext e3
    have G3 : Ow Val.cells 2 37 w3 b3 (b3 + 1) (some ⟨b3, 0, none⟩) 0 0 ([] : List Val) := Own.ow (by simpa [Val.cells] using O3) rfl (by omega) (Nat.le_refl _) (by omega) (by intro x hx; rfl)
    refine ov (xmove rfl) rfl rfl rfl ?_
    refine oapp (bytes := 32) (nm := n) G3 rfl rfl elem37 (H.ext E) hp (by intro y hy; rfl) (by intro y hy u hu; simp only [Val.cells, List.mem_cons, List.not_mem_nil, or_false] at hu; rcases hu with rfl | rfl <;> rfl) (by omega) (by omega) (by omega) (by omega) rfl rfl ?_
    intro p4 c4_ w4 m4 G4
    have hz4 := m4.size
    have E := m4.toExt E (by omega)
    try replace O1 := m4.own O1 (by omega)
    refine ov (xassign rfl) rfl rfl rfl ?_
    refine ops_nil ?_
    refine run_seq ?_
    refine run_region ?_
    refine ov (xmove rfl) rfl rfl rfl ?_
    refine ov (xfieldAddr fo37f0 rfl) rfl rfl rfl ?_
    refine ov (v := .string r.Name) (xload1 Try.isAgg9 rfl (O1.cells) rfl) rfl rfl rfl ?_
    refine oc (xcall Try.call41 rfl) rfl rfl rfl (l28Find_ok _ _ _ _ (r.Name) _ (H.ext E)) ?_
    rintro _ w5 ⟨rfl, e5⟩
    have z5 := e5.size
    have E := E.trans e5
    replace G4 := G4.ext e5
    replace O1 := O1.ext e5
    refine ov (xassign rfl) rfl rfl rfl ?_
    refine ops_nil ?_
    refine run_seq ?_
    refine run_seq ?_
    refine run_region ?_
    refine ov (xmove rfl) rfl rfl rfl ?_
    refine ov (xgeq rfl rfl _ rfl) rfl rfl rfl ?_
    refine ods (fun c19 => ?_) (fun c19 => ?_)
    ·
      have hsv := setV_set (v := r) (by omega : ¬ findV xs r.Name < 0)
      refine ops_nil ?_
      refine run_cond_t rfl ?_
      refine run_region ?_
      refine ov (xmove rfl) rfl rfl rfl ?_
      refine ov (xmove rfl) rfl rfl rfl ?_
      refine ov (v := .agg #[.string r.Name, .string r.Text]) (xloadN Try.isAgg37 Try.sizeOf37 rfl (O1.cells) rfl) rfl rfl rfl ?_
      have h23 := (G4.sl).at (i := (findV xs r.Name).toNat) (by omega)
      refine ov (xindexN (i := (findV xs r.Name).toNat) Try.underlying25 Try.sizeOf37 rfl rfl (by omega) ((G4.sl).p (i := (findV xs r.Name).toNat) (by omega)) (by have := (G4.sl).len; omega)) rfl rfl rfl ?_
      refine ostoreOwN (i := (findV xs r.Name).toNat) (y := r) (vs := [.string r.Name, .string r.Text]) Try.sizeOf37 G4 (by omega) rfl rfl rfl rfl (by simp [Value.oneCell']) rfl ?_
      intro w6 m6 g6
      have z6 := m6.size
      have E := m6.toExt E (by omega)
      try replace O1 := m6.own O1 (by omega)
      replace G4 := g6
      refine ops_nil ?_
      refine run_seq ?_
      refine run_seq ?_
      refine run_region ?_
      refine ov (xmove rfl) rfl rfl rfl ?_
      refine oc (xcall Try.call12 rfl) rfl rfl rfl (sAreValues_ok _ _ _ (setV xs r) _ (hsv ▸ (G4.sl)) (setV_ok hx hr)) ?_
      rintro _ w7 ⟨rfl, e7⟩
      have z7 := e7.size
      have E := E.trans e7
      replace G4 := G4.ext e7
      replace O1 := O1.ext e7
      refine obs (fun c29 => ?_) (fun c29 => ?_)
      ·
        refine ov (xnot rfl) rfl rfl rfl ?_
        refine ops_nil ?_
        refine run_cond_f rfl ?_
        refine run_skip ?_
        refine run_seq ?_
        refine run_region ?_
        refine ov (xmove rfl) rfl rfl rfl ?_
        refine ov (xassign rfl) rfl rfl rfl ?_
        refine ov (xassign rfl) rfl rfl rfl ?_
        refine ops_nil ?_
        refine run_ret Try.func19 (res2 rfl rfl rfl) ?_
        have he : setValue xs r = (setV xs r, 0) := by rw [setValue, if_neg (by simp [c9]), if_neg (by simp [c29])]
        exact ⟨_, rfl, E, _, _, _, by rw [he], by rw [he]; exact (hsv ▸ G4).wide (by omega) (by omega)⟩
      ·
        refine ov (xnot rfl) rfl rfl rfl ?_
        refine ops_nil ?_
        refine run_cond_t rfl ?_
        refine run_seq ?_
        refine run_region ?_
        refine ov (xassign rfl) rfl rfl rfl ?_
        refine ov (xassign rfl) rfl rfl rfl ?_
        refine ops_nil ?_
        refine run_ret Try.func19 (res2 rfl rfl rfl) ?_
        have he : setValue xs r = ([], 5) := by rw [setValue, if_neg (by simp [c9]), if_pos (by simp [c29])]
        exact ⟨_, rfl, E, none, 0, 0, by rw [he], by rw [he]; exact Ow.none _ _ _ _ _ _⟩
    ·
      have hsv := setV_app (v := r) (by omega : findV xs r.Name < 0)
      refine ops_nil ?_
      refine run_cond_f rfl ?_
      refine run_region ?_
      refine ov (xmove rfl) rfl rfl rfl ?_
      refine ov (v := .agg #[.string r.Name, .string r.Text]) (xloadN Try.isAgg37 Try.sizeOf37 rfl (O1.cells) rfl) rfl rfl rfl ?_
      refine obuild (cs := [.string r.Name, .string r.Text]) (sz := 2) Try.underlying25 inf37 rfl rfl (by decide) rfl rfl (by simp [Value.cells]) rfl rfl rfl ?_
      intro b6 w6 e6 hb6 hz6 O6
      have E := E.trans e6
      replace G4 := G4.ext e6
      replace O1 := O1.ext e6
      refine oapp (bytes := 32) (nm := (n + 1)) G4 rfl rfl elem37 (Own.sl1 (y := r) O6) (by intro h; cases h) (by intro y hy; rfl) (by intro y hy u hu; rw [List.mem_singleton] at hy; subst hy; revert u; simp [Value.oneCell', Val.cells]) (by omega) (by omega) (by omega) (by omega) rfl rfl ?_
      intro p7 c7_ w7 m7 G7
      have hz7 := m7.size
      have E := m7.toExt E (by omega)
      try replace O1 := m7.own O1 (by omega)
      try replace O6 := m7.own O6 (by omega)
      refine ov (xassign rfl) rfl rfl rfl ?_
      refine ops_nil ?_
      refine run_seq ?_
      refine run_seq ?_
      refine run_region ?_
      refine ov (xmove rfl) rfl rfl rfl ?_
      refine oc (xcall Try.call12 rfl) rfl rfl rfl (sAreValues_ok _ _ _ (setV xs r) _ (hsv ▸ (G7.sl)) (setV_ok hx hr)) ?_
      rintro _ w8 ⟨rfl, e8⟩
      have z8 := e8.size
      have E := E.trans e8
      replace G7 := G7.ext e8
      replace O1 := O1.ext e8
      replace O6 := O6.ext e8
      refine obs (fun c29 => ?_) (fun c29 => ?_)
      ·
        refine ov (xnot rfl) rfl rfl rfl ?_
        refine ops_nil ?_
        refine run_cond_f rfl ?_
        refine run_skip ?_
        refine run_seq ?_
        refine run_region ?_
        refine ov (xmove rfl) rfl rfl rfl ?_
        refine ov (xassign rfl) rfl rfl rfl ?_
        refine ov (xassign rfl) rfl rfl rfl ?_
        refine ops_nil ?_
        refine run_ret Try.func19 (res2 rfl rfl rfl) ?_
        have he : setValue xs r = (setV xs r, 0) := by rw [setValue, if_neg (by simp [c9]), if_neg (by simp [c29])]
        exact ⟨_, rfl, E, _, _, _, by rw [he], by rw [he]; exact (hsv ▸ G7).wide (by omega) (by omega)⟩
      ·
        refine ov (xnot rfl) rfl rfl rfl ?_
        refine ops_nil ?_
        refine run_cond_t rfl ?_
        refine run_seq ?_
        refine run_region ?_
        refine ov (xassign rfl) rfl rfl rfl ?_
        refine ov (xassign rfl) rfl rfl rfl ?_
        refine ops_nil ?_
        refine run_ret Try.func19 (res2 rfl rfl rfl) ?_
        have he : setValue xs r = ([], 5) := by rw [setValue, if_neg (by simp [c9]), if_pos (by simp [c29])]
        exact ⟨_, rfl, E, none, 0, 0, by rw [he], by rw [he]; exact Ow.none _ _ _ _ _ _⟩
  ·
    refine ov (xnot rfl) rfl rfl rfl ?_
    refine ops_nil ?_
    refine run_cond_t rfl ?_
    refine run_seq ?_
    refine run_region ?_
    refine ov (xassign rfl) rfl rfl rfl ?_
    refine ov (xassign rfl) rfl rfl rfl ?_
    refine ops_nil ?_
    refine run_ret Try.func19 (res2 rfl rfl rfl) ?_
    have he : setValue xs r = ([], 1) := by rw [setValue, if_pos c9]
    exact ⟨_, rfl, E, none, 0, 0, by rw [he], by rw [he]; exact Ow.none _ _ _ _ _ _⟩
end Go.Proofs.Ytgbedilaiefcbaa
