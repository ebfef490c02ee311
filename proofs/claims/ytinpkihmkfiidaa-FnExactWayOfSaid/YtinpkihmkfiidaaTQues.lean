/-
  The laws' own functions on questions. No condition beyond those written in each theorem.
-/
import Derived.Test.YtinpkihmkfiidaaBase
namespace Go.Proofs.Ytinpkihmkfiidaa
open Go.RowKit
set_option linter.unusedVariables false
set_option linter.unusedSimpArgs false
set_option linter.unusedSectionVars false
set_option maxRecDepth 4000


structure Question where
  Label : ByteArray
  Yes : Int
  No : Int
def Question.cells (r : Question) : List Value := [.string r.Label, .int .i64 r.Yes, .int .i64 r.No]
def Question.ok (r : Question) : Prop := r.Label.size ≤ 9223372036854775807 ∧ I64 r.Yes ∧ I64 r.No
def szQuestion (r : Question) (l : Int) : Int := sub1 r.Label.size l
def eqQuestion (r s : Question) : Bool := decide (r.Label = s.Label ∧ r.Yes = s.Yes ∧ r.No = s.No)
theorem eqQuestion_iff {r s : Question} : eqQuestion r s = true ↔ r = s := by cases r; cases s; simp [eqQuestion]
theorem eqQuestion_refl (r : Question) : eqQuestion r r = true := eqQuestion_iff.2 rfl
theorem Question.len (r : Question) : r.cells.length = 3 := rfl
theorem Question.ext' {a b : Question} (h0 : a.Label = b.Label) (h1 : a.Yes = b.Yes) (h2 : a.No = b.No) : a = b := by cases a; cases b; simp_all
theorem szQuestion_le (r : Question) (l : Int) (h : -1 ≤ l) : -1 ≤ szQuestion r l ∧ szQuestion r l ≤ l := by unfold szQuestion; (try unfold bnd); unfold sub1; (try dsimp only); constructor <;> (repeat' split) <;> omega


set_option maxHeartbeats 400000 in
theorem szQuestion_ok (r : Question) (l : Int) (w : World) (hr : r.ok) (h0 : 0 ≤ l) (h1 : l ≤ 1048576) : Ret Try.prog 85 [.agg #[.string r.Label, .int .i64 r.Yes, .int .i64 r.No], .int .i64 l] w (Pv w (.int .i64 (szQuestion r l))) := by
  refine ret_of_run (N := 13) Try.func85 rfl rfl rfl ?_
  obtain ⟨o0, o1, o2⟩ := hr
  try unfold I64 at *
  have E : Ext w w := Ext.refl w
  refine run_seq ?_
  refine run_region ?_
  refine obox rfl rfl rfl ?_
  intro b1 w1 e1 hb1 hz1 O1
  have E := E.trans e1
  replace O1 : Own w1 b1 [.string r.Label, .int .i64 r.Yes, .int .i64 r.No] 79 := O1
  refine ov (xassign rfl) rfl rfl rfl ?_
  refine ops_nil ?_
  refine run_seq ?_
  refine run_region ?_
  refine ov (xmove rfl) rfl rfl rfl ?_
  refine ov (xfieldAddr fo79f0 rfl) rfl rfl rfl ?_
  refine ov (v := .string r.Label) (xload1 Try.isAgg9 rfl (O1.cells) rfl) rfl rfl rfl ?_
  refine ov (xlens Try.underlying9 rfl) rfl rfl rfl ?_
  refine ov (xsub rfl rfl (by unfold I64; omega)) rfl rfl rfl ?_
  refine ov (xassign rfl) rfl rfl rfl ?_
  refine ops_nil ?_
  refine run_seq ?_
  refine run_seq ?_
  refine run_region ?_
  refine ov (xmove rfl) rfl rfl rfl ?_
  refine ov (xlss rfl rfl _ rfl) rfl rfl rfl ?_
  refine ods (fun c11 => ?_) (fun c11 => ?_)
  ·
    refine ops_nil ?_
    refine run_cond_t rfl ?_
    refine run_seq ?_
    refine run_region ?_
    refine ov (xassign rfl) rfl rfl rfl ?_
    refine ops_nil ?_
    refine run_ret Try.func85 (res1 rfl rfl) ?_
    exact ⟨_, rfl, by unfold szQuestion; (try unfold bnd); unfold sub1; simp only [*, if_true, if_false, ↓reduceIte] <;> (try simp), E⟩
  ·
    refine ops_nil ?_
    refine run_cond_f rfl ?_
    refine run_skip ?_
    refine run_seq ?_
    refine run_region ?_
    refine ov (xmove rfl) rfl rfl rfl ?_
    refine ov (xassign rfl) rfl rfl rfl ?_
    refine ops_nil ?_
    refine run_ret Try.func85 (res1 rfl rfl) ?_
    exact ⟨_, rfl, by unfold szQuestion; (try unfold bnd); unfold sub1; simp only [*, if_true, if_false, ↓reduceIte] <;> (try simp), E⟩

set_option maxHeartbeats 400000 in
theorem szQuestionS_ok (p : Option Addr) (n c : Nat) (xs : List Question) (l0 : Int) (w : World) (H : Sl Question.cells 3 w p n c xs) (hx : ∀ x ∈ xs, x.ok) (h0 : 0 ≤ l0) (h1 : l0 ≤ 1048576) : Ret Try.prog 25 [.slice p n c, .int .i64 l0] w (Pv w (.int .i64 (szS szQuestion xs l0))) := by
  refine ret_of_run (N := 27) Try.func25 rfl rfl rfl ?_
  have hn := H.len
  have hn6 := H.n64
  have E : Ext w w := Ext.refl w
  refine run_seq ?_
  refine run_region ?_
  refine ov (xassign rfl) rfl rfl rfl ?_
  refine ops_nil ?_
  refine run_seq ?_
  refine run_region ?_
  refine ov (xmove rfl) rfl rfl rfl ?_
  refine ov (xmove rfl) rfl rfl rfl ?_
  refine ov (xlen Try.underlying22 rfl) rfl rfl rfl ?_
  refine ov (xsub rfl rfl (by unfold I64; omega)) rfl rfl rfl ?_
  refine ov (xassign rfl) rfl rfl rfl ?_
  refine ops_nil ?_
  refine run_seq ?_
  refine run_seq ?_
  refine run_region ?_
  refine ov (xmove rfl) rfl rfl rfl ?_
  refine ov (xlss rfl rfl _ rfl) rfl rfl rfl ?_
  refine ods (fun c11 => ?_) (fun c11 => ?_)
  ·
    refine ops_nil ?_
    refine run_cond_t rfl ?_
    refine run_seq ?_
    refine run_region ?_
    refine ov (xassign rfl) rfl rfl rfl ?_
    refine ops_nil ?_
    refine run_ret Try.func25 (res1 rfl rfl) ?_
    exact ⟨_, rfl, by rw [szS, if_pos (by omega)], E⟩
  ·
    refine ops_nil ?_
    refine run_cond_f rfl ?_
    refine run_skip ?_
    refine run_seq ?_
    refine run_seq ?_
    refine run_region ?_
    refine ov (xassign rfl) rfl rfl rfl ?_
    refine ops_nil ?_
    refine run_block ?_
    refine run_loop (ι := Nat × Int × World) (fun x_ => match x_ with | (k, l, wr) => (Ext w wr) ∧ (w.heap.size ≤ wr.heap.size) ∧ (k ≤ n) ∧ (0 ≤ l) ∧ (l ≤ 1048576) ∧ (goS szQuestion xs (l0 - xs.length) = goS szQuestion (xs.drop k) l)) (fun x_ => match x_ with | (k, l, wr) => [(0, .slice p n c), (1, .int .i64 l), (5, .int .i64 (k : Int))]) (fun x_ => match x_ with | (k, l, wr) => wr) (fun x_ => match x_ with | (k, l, wr) => n - k) ?_ (0, l0 - (n : Int), w) (⟨E, Nat.le_refl _, by omega, by omega, by omega, by rw [hn]; rfl⟩) ⟨rfl, rfl, rfl, trivial⟩ rfl
    intro i_ hI_ hback5
    obtain ⟨k, l, wr⟩ := i_
    obtain ⟨E, lz_wr, hk, hl0, hl1, hg⟩ := hI_
    try dsimp only
    have zr := E.size
    refine run_seq ?_
    refine run_seq ?_
    refine run_region ?_
    refine ov (xmove rfl) rfl rfl rfl ?_
    refine ov (xmove rfl) rfl rfl rfl ?_
    refine ov (xlen Try.underlying22 rfl) rfl rfl rfl ?_
    refine ov (xlss rfl rfl _ rfl) rfl rfl rfl ?_
    refine ods (fun c15 => ?_) (fun c15 => ?_)
    ·
      refine ops_nil ?_
      refine run_cond_t rfl ?_
      refine run_skip ?_
      refine run_seq ?_
      refine run_block ?_
      refine run_seq ?_
      refine run_region ?_
      refine ov (xmove rfl) rfl rfl rfl ?_
      refine ov (xmove rfl) rfl rfl rfl ?_
      have h20 := (H.ext E).at (i := k) (by omega)
      refine ov (xindexN (i := k) Try.underlying22 Try.sizeOf79 rfl rfl rfl ((H.ext E).p (i := k) (by omega)) (by have := (H.ext E).len; omega)) rfl rfl rfl ?_
      refine ov (xloadN Try.isAgg79 Try.sizeOf79 rfl (h20) rfl) rfl rfl rfl ?_
      refine ov (xmove rfl) rfl rfl rfl ?_
      refine oc (xcall Try.call85 rfl) rfl rfl rfl (szQuestion_ok xs[k] l _ (hx _ (List.getElem_mem _)) (by omega) (by omega)) ?_
      rintro _ w1 ⟨rfl, e1⟩
      have z1 := e1.size
      have E := E.trans e1
      refine ov (xassign rfl) rfl rfl rfl ?_
      refine ops_nil ?_
      refine run_seq ?_
      refine run_region ?_
      refine ov (xmove rfl) rfl rfl rfl ?_
      refine ov (xlss rfl rfl _ rfl) rfl rfl rfl ?_
      refine ods (fun c25 => ?_) (fun c25 => ?_)
      ·
        refine ops_nil ?_
        refine run_cond_t rfl ?_
        refine run_seq ?_
        refine run_region ?_
        refine ov (xassign rfl) rfl rfl rfl ?_
        refine ops_nil ?_
        refine run_ret Try.func25 (res1 rfl rfl) ?_
        exact ⟨_, rfl, by rw [szS, if_neg (by omega), hg, List.drop_eq_getElem_cons (by omega), goS, if_pos (by omega)], E⟩
      ·
        refine ops_nil ?_
        refine run_cond_f rfl ?_
        refine run_skip ?_
        refine run_inBlock ?_
        refine run_region ?_
        refine ov (xmove rfl) rfl rfl rfl ?_
        refine ov (xadd rfl rfl (by unfold I64; omega)) rfl rfl rfl ?_
        refine ov (xassign rfl) rfl rfl rfl ?_
        refine ops_nil ?_
        refine run_sub ?_ (hback5 (k + 1, szQuestion xs[k] l, w1) (⟨E, by omega, by omega, by omega, by have := (szQuestion_le xs[k] l (by omega)).2; omega, by rw [hg, List.drop_eq_getElem_cons (by omega), goS, if_neg (by omega)]⟩) (by first | omega | (dsimp only; omega)))
        exact ⟨rfl, rfl, rfl, trivial⟩
    ·
      refine ops_nil ?_
      refine run_cond_f rfl ?_
      refine run_exit rfl ?_
      refine run_seq ?_
      refine run_region ?_
      refine ov (xmove rfl) rfl rfl rfl ?_
      refine ov (xassign rfl) rfl rfl rfl ?_
      refine ops_nil ?_
      refine run_ret Try.func25 (res1 rfl rfl) ?_
      obtain rfl : k = n := by omega
      exact ⟨_, rfl, by rw [szS, if_neg (by omega), hg, hn, List.drop_length, goS], E⟩

set_option maxHeartbeats 400000 in
theorem toQuestion_ok (r : Question) (w : World) : Ret Try.prog 89 [.agg #[.string r.Label, .int .i64 r.Yes, .int .i64 r.No]] w (Pv w (.agg #[.string r.Label, .int .i64 r.Yes, .int .i64 r.No])) := by
  refine ret_of_run (N := 14) Try.func89 rfl rfl rfl ?_
  have E : Ext w w := Ext.refl w
  refine run_seq ?_
  refine run_region ?_
  refine obox rfl rfl rfl ?_
  intro b1 w1 e1 hb1 hz1 O1
  have E := E.trans e1
  replace O1 : Own w1 b1 [.string r.Label, .int .i64 r.Yes, .int .i64 r.No] 79 := O1
  refine oalloc Try.zeroValue80 rfl rfl ?_
  intro b2 w2 e2 hb2 hz2 O2
  have E := E.trans e2
  replace O1 := O1.ext e2
  replace O2 : Own w2 b2 [.string ⟨#[]⟩, .int .i64 0, .int .i64 0] 80 := O2
  refine ops_nil ?_
  refine run_seq ?_
  refine run_region ?_
  refine oalloc Try.zeroValue80 rfl rfl ?_
  intro b3 w3 e3 hb3 hz3 O3
  have E := E.trans e3
  replace O1 := O1.ext e3
  replace O2 := O2.ext e3
  replace O3 : Own w3 b3 [.string ⟨#[]⟩, .int .i64 0, .int .i64 0] 80 := O3
  refine ops_nil ?_
  refine run_seq ?_
  refine run_region ?_
  refine ov (xfieldAddr fo79f0 rfl) rfl rfl rfl ?_
  refine ov (v := .string r.Label) (xload1 Try.isAgg9 rfl (O1.cells) rfl) rfl rfl rfl ?_
  refine ov (xfieldAddr fo80f0 rfl) rfl rfl rfl ?_
  refine ostore1 Try.sizeOf9 rfl rfl O3 (by simp) rfl rfl ?_
  intro w4 on4 O4
  have hz4 := on4.size
  have E := on4.ext E (by omega)
  replace O1 := on4.own O1 (by omega)
  replace O2 := on4.own O2 (by omega)
  replace O4 : Own w4 b3 [.string r.Label, .int .i64 0, .int .i64 0] 80 := O4
  refine ops_nil ?_
  refine run_seq ?_
  refine run_region ?_
  refine ov (xfieldAddr fo79f1 rfl) rfl rfl rfl ?_
  refine ov (v := .int .i64 r.Yes) (xload1 Try.isAgg2 rfl (O1.cells) rfl) rfl rfl rfl ?_
  refine ov (xfieldAddr fo80f1 rfl) rfl rfl rfl ?_
  refine ostore1 Try.sizeOf2 rfl rfl O4 (by simp) rfl rfl ?_
  intro w5 on5 O5
  have hz5 := on5.size
  have E := on5.ext E (by omega)
  replace O1 := on5.own O1 (by omega)
  replace O2 := on5.own O2 (by omega)
  replace O5 : Own w5 b3 [.string r.Label, .int .i64 r.Yes, .int .i64 0] 80 := O5
  refine ops_nil ?_
  refine run_seq ?_
  refine run_region ?_
  refine ov (xfieldAddr fo79f2 rfl) rfl rfl rfl ?_
  refine ov (v := .int .i64 r.No) (xload1 Try.isAgg2 rfl (O1.cells) rfl) rfl rfl rfl ?_
  refine ov (xfieldAddr fo80f2 rfl) rfl rfl rfl ?_
  refine ostore1 Try.sizeOf2 rfl rfl O5 (by simp) rfl rfl ?_
  intro w6 on6 O6
  have hz6 := on6.size
  have E := on6.ext E (by omega)
  replace O1 := on6.own O1 (by omega)
  replace O2 := on6.own O2 (by omega)
  replace O6 : Own w6 b3 [.string r.Label, .int .i64 r.Yes, .int .i64 r.No] 80 := O6
  refine ops_nil ?_
  refine run_seq ?_
  refine run_region ?_
  refine ov (v := .agg #[.string r.Label, .int .i64 r.Yes, .int .i64 r.No]) (xloadN Try.isAgg80 Try.sizeOf80 rfl (O6.cells) rfl) rfl rfl rfl ?_
  refine ostoreN (vs := _) Try.sizeOf80 rfl rfl O2 rfl (by simp) (by simp [Value.oneCell']) rfl ?_
  intro w7 on7 O7
  have hz7 := on7.size
  have E := on7.ext E (by omega)
  replace O1 := on7.own O1 (by omega)
  replace O6 := on7.own O6 (by omega)
  replace O7 : Own w7 b2 [.string r.Label, .int .i64 r.Yes, .int .i64 r.No] 80 := O7
  refine ops_nil ?_
  refine run_ret Try.func89 (resc1 rfl rfl (run_loadVar_cells Try.isAgg80 Try.sizeOf80 O7.cells rfl)) ?_
  exact ⟨_, rfl, pv E⟩

set_option maxHeartbeats 400000 in
theorem toQuestionS_ok (p : Option Addr) (n c : Nat) (xs : List Question) (w : World) (H : Sl Question.cells 3 w p n c xs) (hn2 : n ≤ 1048576) : Ret Try.prog 27 [.slice p n c] w (fun v w' => Ext w w' ∧ ∃ q, v = .slice (some q) n n ∧ Ow Question.cells 3 80 w' w.heap.size w'.heap.size (some q) n n xs) := by
  refine ret_of_run (N := 23) Try.func27 rfl rfl rfl ?_
  have hn := H.len
  have hn6 := H.n64
  have E : Ext w w := Ext.refl w
  refine run_seq ?_
  refine run_region ?_
  refine ov (xassign rfl) rfl rfl rfl ?_
  refine ops_nil ?_
  refine run_seq ?_
  refine run_region ?_
  refine ov (xmove rfl) rfl rfl rfl ?_
  refine ov (xlen Try.underlying22 rfl) rfl rfl rfl ?_
  refine omake (n := n) Try.underlying25 inf80 rfl rfl (by decide) rfl rfl rfl rfl (by simp only [Try.t80]; omega) (by omega) rfl rfl ?_
  intro b1 w1 e1 hb1 hz1 O1
  have E := E.trans e1
  replace O1 : Own w1 b1 (List.replicate (n) ([.string ⟨#[]⟩, .int .i64 0, .int .i64 0] : List Value)).flatten 80 := O1
  refine ov (xassign rfl) rfl rfl rfl ?_
  refine ops_nil ?_
  refine run_seq ?_
  refine run_seq ?_
  refine run_region ?_
  refine ov (xassign rfl) rfl rfl rfl ?_
  refine ops_nil ?_
  refine run_block ?_
  refine run_loop (ι := Nat × World) (fun x_ => match x_ with | (k, wr) => (Ext w wr) ∧ (Own wr b1 (((xs.take k).map Question.cells ++ List.replicate (n - k) ([.string ⟨#[]⟩, .int .i64 0, .int .i64 0] : List Value)).flatten) 80) ∧ (w1.heap.size ≤ wr.heap.size) ∧ (k ≤ n)) (fun x_ => match x_ with | (k, wr) => [(0, .slice p n c), (3, .slice (some ⟨b1, 0, none⟩) n n), (4, .int .i64 (k : Int))]) (fun x_ => match x_ with | (k, wr) => wr) (fun x_ => match x_ with | (k, wr) => n - k) ?_ (0, w1) (⟨E, by simpa using O1, Nat.le_refl _, by omega⟩) ⟨rfl, rfl, rfl, trivial⟩ rfl
  intro i_ hI_ hback3
  obtain ⟨k, wr⟩ := i_
  obtain ⟨E, O_b1, lz_wr, hk⟩ := hI_
  try dsimp only
  have zr := E.size
  have lt_b1 := O_b1.lt
  refine run_seq ?_
  refine run_seq ?_
  refine run_region ?_
  refine ov (xmove rfl) rfl rfl rfl ?_
  refine ov (xmove rfl) rfl rfl rfl ?_
  refine ov (xlen Try.underlying22 rfl) rfl rfl rfl ?_
  refine ov (xlss rfl rfl _ rfl) rfl rfl rfl ?_
  refine ods (fun c11 => ?_) (fun c11 => ?_)
  ·
    refine ops_nil ?_
    refine run_cond_t rfl ?_
    refine run_skip ?_
    refine run_seq ?_
    refine run_block ?_
    refine run_region ?_
    refine ov (xmove rfl) rfl rfl rfl ?_
    refine ov (xmove rfl) rfl rfl rfl ?_
    refine ov (xmove rfl) rfl rfl rfl ?_
    refine ov (xmove rfl) rfl rfl rfl ?_
    have h18 := (H.ext E).at (i := k) (by omega)
    refine ov (xindexN (i := k) Try.underlying22 Try.sizeOf79 rfl rfl rfl ((H.ext E).p (i := k) (by omega)) (by have := (H.ext E).len; omega)) rfl rfl rfl ?_
    refine ov (xloadN Try.isAgg79 Try.sizeOf79 rfl (h18) rfl) rfl rfl rfl ?_
    refine oc (xcall Try.call89 rfl) rfl rfl rfl (toQuestion_ok xs[k] _) ?_
    rintro _ w2 ⟨rfl, e2⟩
    have z2 := e2.size
    have E := E.trans e2
    replace O_b1 := O_b1.ext e2
    refine ov (xindexO (i := k) Try.underlying25 Try.sizeOf80 rfl rfl rfl (by omega)) rfl rfl rfl ?_
    refine ostoreEl (i := k) (sz := 3) (vs := [.string xs[k].Label, .int .i64 xs[k].Yes, .int .i64 xs[k].No]) (rows := ((xs.take k).map Question.cells ++ List.replicate (n - k) ([.string ⟨#[]⟩, .int .i64 0, .int .i64 0] : List Value))) Try.sizeOf80 rfl rfl O_b1 (rows_ok (fun _ => rfl) rfl) (by simp; omega) rfl (by simp [Value.oneCell']) rfl ?_
    intro w3 on3 O3
    have hz3 := on3.size
    have E := on3.ext E (by omega)
    refine ops_nil ?_
    refine run_inBlock ?_
    refine run_region ?_
    refine ov (xmove rfl) rfl rfl rfl ?_
    refine ov (xadd rfl rfl (by unfold I64; omega)) rfl rfl rfl ?_
    refine ov (xassign rfl) rfl rfl rfl ?_
    refine ops_nil ?_
    refine run_sub ?_ (hback3 (k + 1, w3) (⟨E, by rw [← rows_step hn (by omega)]; exact O3, by omega, by omega⟩) (by first | omega | (dsimp only; omega)))
    exact ⟨rfl, rfl, rfl, trivial⟩
  ·
    refine ops_nil ?_
    refine run_cond_f rfl ?_
    refine run_exit rfl ?_
    refine run_seq ?_
    refine run_region ?_
    refine ov (xmove rfl) rfl rfl rfl ?_
    refine ov (xassign rfl) rfl rfl rfl ?_
    refine ops_nil ?_
    refine run_ret Try.func27 (res1 rfl rfl) ?_
    obtain rfl : k = n := by omega
    refine ⟨_, rfl, E, _, rfl, Own.ow (by simpa [hn] using O_b1) hn (by omega) (by omega) O_b1.lt (fun _ _ => rfl)⟩

set_option maxHeartbeats 400000 in
theorem eqQuestion_ok (r s : Question) (w : World) : Ret Try.prog 95 [.agg #[.string r.Label, .int .i64 r.Yes, .int .i64 r.No], .agg #[.string s.Label, .int .i64 s.Yes, .int .i64 s.No]] w (Pv w (.bool (eqQuestion r s))) := by
  refine ret_of_run (N := 20) Try.func95 rfl rfl rfl ?_
  have E : Ext w w := Ext.refl w
  refine run_seq ?_
  refine run_region ?_
  refine obox rfl rfl rfl ?_
  intro b1 w1 e1 hb1 hz1 O1
  have E := E.trans e1
  replace O1 : Own w1 b1 [.string r.Label, .int .i64 r.Yes, .int .i64 r.No] 80 := O1
  refine obox rfl rfl rfl ?_
  intro b2 w2 e2 hb2 hz2 O2
  have E := E.trans e2
  replace O1 := O1.ext e2
  replace O2 : Own w2 b2 [.string s.Label, .int .i64 s.Yes, .int .i64 s.No] 80 := O2
  refine ov (xassign rfl) rfl rfl rfl ?_
  refine ops_nil ?_
  refine run_seq ?_
  refine run_seq ?_
  refine run_region ?_
  refine ov (xfieldAddr fo80f0 rfl) rfl rfl rfl ?_
  refine ov (v := .string r.Label) (xload1 Try.isAgg9 rfl (O1.cells) rfl) rfl rfl rfl ?_
  refine ov (xfieldAddr fo80f0 rfl) rfl rfl rfl ?_
  refine ov (v := .string s.Label) (xload1 Try.isAgg9 rfl (O2.cells) rfl) rfl rfl rfl ?_
  refine ov (xsneq rfl rfl _ rfl) rfl rfl rfl ?_
  refine ods (fun c9 => ?_) (fun c9 => ?_)
  ·
    refine ops_nil ?_
    refine run_cond_t rfl ?_
    refine run_seq ?_
    refine run_region ?_
    refine ov (xassign rfl) rfl rfl rfl ?_
    refine ops_nil ?_
    refine run_ret Try.func95 (res1 rfl rfl) ?_
    exact ⟨_, rfl, by simp_all [eqQuestion], E⟩
  ·
    refine ops_nil ?_
    refine run_cond_f rfl ?_
    refine run_skip ?_
    refine run_seq ?_
    refine run_seq ?_
    refine run_region ?_
    refine ov (xfieldAddr fo80f1 rfl) rfl rfl rfl ?_
    refine ov (v := .int .i64 r.Yes) (xload1 Try.isAgg2 rfl (O1.cells) rfl) rfl rfl rfl ?_
    refine ov (xfieldAddr fo80f1 rfl) rfl rfl rfl ?_
    refine ov (v := .int .i64 s.Yes) (xload1 Try.isAgg2 rfl (O2.cells) rfl) rfl rfl rfl ?_
    refine ov (xneq rfl rfl _ rfl) rfl rfl rfl ?_
    refine ods (fun c14 => ?_) (fun c14 => ?_)
    ·
      refine ops_nil ?_
      refine run_cond_t rfl ?_
      refine run_seq ?_
      refine run_region ?_
      refine ov (xassign rfl) rfl rfl rfl ?_
      refine ops_nil ?_
      refine run_ret Try.func95 (res1 rfl rfl) ?_
      exact ⟨_, rfl, by simp_all [eqQuestion], E⟩
    ·
      refine ops_nil ?_
      refine run_cond_f rfl ?_
      refine run_skip ?_
      refine run_seq ?_
      refine run_seq ?_
      refine run_region ?_
      refine ov (xfieldAddr fo80f2 rfl) rfl rfl rfl ?_
      refine ov (v := .int .i64 r.No) (xload1 Try.isAgg2 rfl (O1.cells) rfl) rfl rfl rfl ?_
      refine ov (xfieldAddr fo80f2 rfl) rfl rfl rfl ?_
      refine ov (v := .int .i64 s.No) (xload1 Try.isAgg2 rfl (O2.cells) rfl) rfl rfl rfl ?_
      refine ov (xneq rfl rfl _ rfl) rfl rfl rfl ?_
      refine ods (fun c19 => ?_) (fun c19 => ?_)
      ·
        refine ops_nil ?_
        refine run_cond_t rfl ?_
        refine run_seq ?_
        refine run_region ?_
        refine ov (xassign rfl) rfl rfl rfl ?_
        refine ops_nil ?_
        refine run_ret Try.func95 (res1 rfl rfl) ?_
        exact ⟨_, rfl, by simp_all [eqQuestion], E⟩
      ·
        refine ops_nil ?_
        refine run_cond_f rfl ?_
        refine run_skip ?_
        refine run_seq ?_
        refine run_region ?_
        refine ov (xassign rfl) rfl rfl rfl ?_
        refine ops_nil ?_
        refine run_ret Try.func95 (res1 rfl rfl) ?_
        exact ⟨_, rfl, by simp_all [eqQuestion], E⟩

set_option maxHeartbeats 400000 in
theorem eqQuestionS_ok (p q : Option Addr) (n c m d : Nat) (xs ys : List Question) (w : World) (H : Sl Question.cells 3 w p n c xs) (K : Sl Question.cells 3 w q m d ys) : Ret Try.prog 29 [.slice p n c, .slice q m d] w (Pv w (.bool (eqL eqQuestion xs ys))) := by
  refine ret_of_run (N := 27) Try.func29 rfl rfl rfl ?_
  have hn := H.len
  have hm := K.len
  have hn6 := H.n64
  have hm6 := K.n64
  have E : Ext w w := Ext.refl w
  refine run_seq ?_
  refine run_region ?_
  refine ov (xassign rfl) rfl rfl rfl ?_
  refine ops_nil ?_
  refine run_seq ?_
  refine run_seq ?_
  refine run_region ?_
  refine ov (xmove rfl) rfl rfl rfl ?_
  refine ov (xlen Try.underlying25 rfl) rfl rfl rfl ?_
  refine ov (xmove rfl) rfl rfl rfl ?_
  refine ov (xlen Try.underlying25 rfl) rfl rfl rfl ?_
  refine ov (xneq rfl rfl _ rfl) rfl rfl rfl ?_
  refine ods (fun c10 => ?_) (fun c10 => ?_)
  ·
    refine ops_nil ?_
    refine run_cond_t rfl ?_
    refine run_seq ?_
    refine run_region ?_
    refine ov (xassign rfl) rfl rfl rfl ?_
    refine ops_nil ?_
    refine run_ret Try.func29 (res1 rfl rfl) ?_
    exact ⟨_, rfl, by rw [eqL_ne (by omega)], E⟩
  ·
    refine ops_nil ?_
    refine run_cond_f rfl ?_
    refine run_skip ?_
    refine run_seq ?_
    refine run_seq ?_
    refine run_region ?_
    refine ov (xassign rfl) rfl rfl rfl ?_
    refine ops_nil ?_
    refine run_block ?_
    refine run_loop (ι := Nat × World) (fun x_ => match x_ with | (k, wr) => (Ext w wr) ∧ (w.heap.size ≤ wr.heap.size) ∧ (k ≤ n) ∧ (n = m) ∧ (allB k (fun i => eqAt eqQuestion xs ys i) = true)) (fun x_ => match x_ with | (k, wr) => [(0, .slice p n c), (1, .slice q m d), (5, .int .i64 (k : Int))]) (fun x_ => match x_ with | (k, wr) => wr) (fun x_ => match x_ with | (k, wr) => n - k) ?_ (0, w) (⟨E, Nat.le_refl _, by omega, by omega, allB_zero⟩) ⟨rfl, rfl, rfl, trivial⟩ rfl
    intro i_ hI_ hback4
    obtain ⟨k, wr⟩ := i_
    obtain ⟨E, lz_wr, hk, hnm, ha⟩ := hI_
    try dsimp only
    have zr := E.size
    refine run_seq ?_
    refine run_seq ?_
    refine run_region ?_
    refine ov (xmove rfl) rfl rfl rfl ?_
    refine ov (xmove rfl) rfl rfl rfl ?_
    refine ov (xlen Try.underlying25 rfl) rfl rfl rfl ?_
    refine ov (xlss rfl rfl _ rfl) rfl rfl rfl ?_
    refine ods (fun c14 => ?_) (fun c14 => ?_)
    ·
      refine ops_nil ?_
      refine run_cond_t rfl ?_
      refine run_skip ?_
      refine run_seq ?_
      refine run_block ?_
      refine run_seq ?_
      refine run_draw (by kernel_rfl) (by kernel_rfl) ?_
      refine qv (fun w' x_ => xmove rfl) rfl rfl rfl ?_
      refine qv (fun w' x_ => xmove rfl) rfl rfl rfl ?_
      have h19 := (H.ext E).at (i := k) (by omega)
      refine qv (fun w' x_ => xindexN (i := k) Try.underlying25 Try.sizeOf80 rfl rfl rfl ((H.ext E).p (i := k) (by omega)) (by have := (H.ext E).len; omega)) rfl rfl rfl ?_
      refine qv (fun w' x_ => xloadN Try.isAgg80 Try.sizeOf80 rfl ((h19).ext x_) rfl) rfl rfl rfl ?_
      refine qv (fun w' x_ => xmove rfl) rfl rfl rfl ?_
      refine qv (fun w' x_ => xmove rfl) rfl rfl rfl ?_
      have h23 := (K.ext E).at (i := k) (by omega)
      refine qv (fun w' x_ => xindexN (i := k) Try.underlying25 Try.sizeOf80 rfl rfl rfl ((K.ext E).p (i := k) (by omega)) (by have := (K.ext E).len; omega)) rfl rfl rfl ?_
      refine qv (fun w' x_ => xloadN Try.isAgg80 Try.sizeOf80 rfl ((h23).ext x_) rfl) rfl rfl rfl ?_
      have t25 := fun (w' : World) (x_ : Ext wr w') => Ret.q (w := w') (eqQuestion_ok xs[k] ys[k] _)
      refine qc (fun w' => xcall Try.call95 rfl) rfl rfl rfl t25 ?_
      clear t25
      refine qbs (fun c25 => ?_) (fun c25 => ?_)
      ·
        refine qv (fun w' x_ => xnot rfl) rfl rfl rfl ?_
        refine q_nil ?_
        intro w1 e1
        have z1 := e1.size
        have E := E.trans e1
        refine run_cond_f rfl ?_
        refine run_skip ?_
        refine run_inBlock ?_
        refine run_region ?_
        refine ov (xmove rfl) rfl rfl rfl ?_
        refine ov (xadd rfl rfl (by unfold I64; omega)) rfl rfl rfl ?_
        refine ov (xassign rfl) rfl rfl rfl ?_
        refine ops_nil ?_
        refine run_sub ?_ (hback4 (k + 1, w1) (⟨E, by omega, by omega, hnm, allB_succ ha (by rw [eqAt_of (by omega) (by omega)]; assumption)⟩) (by first | omega | (dsimp only; omega)))
        exact ⟨rfl, rfl, rfl, trivial⟩
      ·
        refine qv (fun w' x_ => xnot rfl) rfl rfl rfl ?_
        refine q_nil ?_
        intro w1 e1
        have z1 := e1.size
        have E := E.trans e1
        refine run_cond_t rfl ?_
        refine run_seq ?_
        refine run_region ?_
        refine ov (xassign rfl) rfl rfl rfl ?_
        refine ops_nil ?_
        refine run_ret Try.func29 (res1 rfl rfl) ?_
        exact ⟨_, rfl, by rw [eqL_at (i := k) (by omega) (by omega) (by assumption)], E⟩
    ·
      refine ops_nil ?_
      refine run_cond_f rfl ?_
      refine run_exit rfl ?_
      refine run_seq ?_
      refine run_region ?_
      refine ov (xassign rfl) rfl rfl rfl ?_
      refine ops_nil ?_
      refine run_ret Try.func29 (res1 rfl rfl) ?_
      obtain rfl : k = n := by omega
      exact ⟨_, rfl, by rw [eqL_eq (by omega) (by rw [← hn]; exact ha)], E⟩
end Go.Proofs.Ytinpkihmkfiidaa
