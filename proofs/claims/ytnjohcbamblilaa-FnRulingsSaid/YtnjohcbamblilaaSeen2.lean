/-
  What jurors see of exhibits. No condition beyond those written in each theorem.
-/
import Derived.Test.YtnjohcbamblilaaSeen
namespace Go.Proofs.Ytnjohcbamblilaa
open Go.RowKit
set_option linter.unusedVariables false
set_option linter.unusedSimpArgs false
set_option linter.unusedSectionVars false
set_option maxRecDepth 4000

set_option maxHeartbeats 400000 in
theorem rulingCode_ok (p : Option Addr) (n c : Nat) (rs : List Ruling) (q : Option Addr) (m d : Nat) (xs : List Exhibit) (day : Int) (w : World) (H : Sl Ruling.cells 3 w p n c rs) (K0 : SnExhibitS w q m d xs) (hr : ∀ r ∈ rs, r.Code.size ≤ 9223372036854775807) (hx : ∀ x ∈ xs, exSmall x) : Ret Try.prog 128 [.slice p n c, .slice q m d, .int .i64 day] w (Pv w (.int .i64 (rulCode rs xs day))) := by
  refine ret_of_run (N := 18) Try.func128 rfl rfl rfl ?_
  have E : Ext w w := Ext.refl w
  refine run_seq ?_
  refine run_region ?_
  refine ov (xassign rfl) rfl rfl rfl ?_
  refine ops_nil ?_
  refine run_seq ?_
  refine run_seq ?_
  refine run_region ?_
  refine ov (xmove rfl) rfl rfl rfl ?_
  refine oc (xcall Try.call21 rfl) rfl rfl rfl (AreRulings_ok _ _ _ _ _ (H.ext E) (by assumption)) ?_
  rintro _ w1 ⟨rfl, e1⟩
  have z1 := e1.size
  have E := E.trans e1
  refine obs (fun c8 => ?_) (fun c8 => ?_)
  ·
    refine ov (xnot rfl) rfl rfl rfl ?_
    refine ov (xmove rfl) rfl rfl rfl ?_
    refine ov (xmove rfl) rfl rfl rfl ?_
    refine oc (xcall Try.call67 rfl) rfl rfl rfl (AreExhibits_ok _ _ _ _ _ (K0.ext E).sn (by assumption)) ?_
    rintro _ w2 ⟨rfl, e2⟩
    have z2 := e2.size
    have E := E.trans e2
    refine obs (fun c12 => ?_) (fun c12 => ?_)
    ·
      refine ov (xnot rfl) rfl rfl rfl ?_
      refine ov (xpick_f rfl rfl) rfl rfl rfl ?_
      refine ops_nil ?_
      refine run_cond_f rfl ?_
      refine run_skip ?_
      refine run_seq ?_
      refine run_seq ?_
      refine run_region ?_
      refine ov (xmove rfl) rfl rfl rfl ?_
      refine oc (xcall Try.call96 rfl) rfl rfl rfl (isDay_ok (day) _) ?_
      rintro _ w_ ⟨rfl, hw_⟩
      replace hw_ := hw_.symm
      subst hw_
      refine obs (fun c16 => ?_) (fun c16 => ?_)
      ·
        refine ov (xnot rfl) rfl rfl rfl ?_
        refine ops_nil ?_
        refine run_cond_f rfl ?_
        refine run_skip ?_
        refine run_seq ?_
        refine run_region ?_
        refine ov (xassign rfl) rfl rfl rfl ?_
        refine ops_nil ?_
        refine run_ret Try.func128 (res1 rfl rfl) ?_
        exact ⟨_, rfl, by simp [rulCode, c8, c12, c16], E⟩
      ·
        refine ov (xnot rfl) rfl rfl rfl ?_
        refine ops_nil ?_
        refine run_cond_t rfl ?_
        refine run_seq ?_
        refine run_region ?_
        refine ov (xassign rfl) rfl rfl rfl ?_
        refine ops_nil ?_
        refine run_ret Try.func128 (res1 rfl rfl) ?_
        exact ⟨_, rfl, by simp [rulCode, c8, c12, c16], E⟩
    ·
      refine ov (xnot rfl) rfl rfl rfl ?_
      refine ov (xpick_f rfl rfl) rfl rfl rfl ?_
      refine ops_nil ?_
      refine run_cond_t rfl ?_
      refine run_seq ?_
      refine run_region ?_
      refine ov (xassign rfl) rfl rfl rfl ?_
      refine ops_nil ?_
      refine run_ret Try.func128 (res1 rfl rfl) ?_
      exact ⟨_, rfl, by simp [rulCode, c8, c12], E⟩
  ·
    refine ov (xnot rfl) rfl rfl rfl ?_
    refine ov (xmove rfl) rfl rfl rfl ?_
    refine og rfl rfl rfl ?_
    refine og rfl rfl rfl ?_
    refine og rfl rfl rfl ?_
    refine ov (xpick_t rfl rfl) rfl rfl rfl ?_
    refine ops_nil ?_
    refine run_cond_t rfl ?_
    refine run_seq ?_
    refine run_region ?_
    refine ov (xassign rfl) rfl rfl rfl ?_
    refine ops_nil ?_
    refine run_ret Try.func128 (res1 rfl rfl) ?_
    exact ⟨_, rfl, by simp [rulCode, c8], E⟩

set_option maxHeartbeats 400000 in
theorem l25Code_ok (p : Option Addr) (n c : Nat) (rs : List Ruling) (q : Option Addr) (m d : Nat) (xs : List Exhibit) (day : Int) (w : World) (H : Sl Ruling.cells 3 w p n c rs) (K0 : SnExhibitS w q m d xs) (hr : ∀ r ∈ rs, r.Code.size ≤ 9223372036854775807) (hx : ∀ x ∈ xs, exSmall x) : Ret Try.prog 127 [.slice p n c, .slice q m d, .int .i64 day] w (Pv w (.int .i64 (rulCode rs xs day))) := by
  refine ret_of_run (N := 18) Try.func127 rfl rfl rfl ?_
  have E : Ext w w := Ext.refl w
  refine run_seq ?_
  refine run_region ?_
  refine ov (xassign rfl) rfl rfl rfl ?_
  refine ops_nil ?_
  refine run_seq ?_
  refine run_seq ?_
  refine run_region ?_
  refine ov (xmove rfl) rfl rfl rfl ?_
  refine oc (xcall Try.call19 rfl) rfl rfl rfl (sAreRulings_ok _ _ _ _ _ (H.ext E) (by assumption)) ?_
  rintro _ w1 ⟨rfl, e1⟩
  have z1 := e1.size
  have E := E.trans e1
  refine obs (fun c8 => ?_) (fun c8 => ?_)
  ·
    refine ov (xnot rfl) rfl rfl rfl ?_
    refine ov (xmove rfl) rfl rfl rfl ?_
    refine ov (xmove rfl) rfl rfl rfl ?_
    refine oc (xcall Try.call68 rfl) rfl rfl rfl (sAreExhibits_ok _ _ _ _ _ (K0.ext E).sn (by assumption)) ?_
    rintro _ w2 ⟨rfl, e2⟩
    have z2 := e2.size
    have E := E.trans e2
    refine obs (fun c12 => ?_) (fun c12 => ?_)
    ·
      refine ov (xnot rfl) rfl rfl rfl ?_
      refine ov (xpick_f rfl rfl) rfl rfl rfl ?_
      refine ops_nil ?_
      refine run_cond_f rfl ?_
      refine run_skip ?_
      refine run_seq ?_
      refine run_seq ?_
      refine run_region ?_
      refine ov (xmove rfl) rfl rfl rfl ?_
      refine oc (xcall Try.call93 rfl) rfl rfl rfl (l02Is_ok (day) _) ?_
      rintro _ w_ ⟨rfl, hw_⟩
      replace hw_ := hw_.symm
      subst hw_
      refine obs (fun c16 => ?_) (fun c16 => ?_)
      ·
        refine ov (xnot rfl) rfl rfl rfl ?_
        refine ops_nil ?_
        refine run_cond_f rfl ?_
        refine run_skip ?_
        refine run_seq ?_
        refine run_region ?_
        refine ov (xassign rfl) rfl rfl rfl ?_
        refine ops_nil ?_
        refine run_ret Try.func127 (res1 rfl rfl) ?_
        exact ⟨_, rfl, by simp [rulCode, c8, c12, c16], E⟩
      ·
        refine ov (xnot rfl) rfl rfl rfl ?_
        refine ops_nil ?_
        refine run_cond_t rfl ?_
        refine run_seq ?_
        refine run_region ?_
        refine ov (xassign rfl) rfl rfl rfl ?_
        refine ops_nil ?_
        refine run_ret Try.func127 (res1 rfl rfl) ?_
        exact ⟨_, rfl, by simp [rulCode, c8, c12, c16], E⟩
    ·
      refine ov (xnot rfl) rfl rfl rfl ?_
      refine ov (xpick_f rfl rfl) rfl rfl rfl ?_
      refine ops_nil ?_
      refine run_cond_t rfl ?_
      refine run_seq ?_
      refine run_region ?_
      refine ov (xassign rfl) rfl rfl rfl ?_
      refine ops_nil ?_
      refine run_ret Try.func127 (res1 rfl rfl) ?_
      exact ⟨_, rfl, by simp [rulCode, c8, c12], E⟩
  ·
    refine ov (xnot rfl) rfl rfl rfl ?_
    refine ov (xmove rfl) rfl rfl rfl ?_
    refine og rfl rfl rfl ?_
    refine og rfl rfl rfl ?_
    refine og rfl rfl rfl ?_
    refine ov (xpick_t rfl rfl) rfl rfl rfl ?_
    refine ops_nil ?_
    refine run_cond_t rfl ?_
    refine run_seq ?_
    refine run_region ?_
    refine ov (xassign rfl) rfl rfl rfl ?_
    refine ops_nil ?_
    refine run_ret Try.func127 (res1 rfl rfl) ?_
    exact ⟨_, rfl, by simp [rulCode, c8], E⟩

set_option maxHeartbeats 400000 in
theorem l25Find_ok (p : Option Addr) (n c : Nat) (xs : List Exhibit) (code : ByteArray) (w : World) (H0 : SnExhibitS w p n c xs) : Ret Try.prog 129 [.slice p n c, .string code] w (Pv w (.int .i64 (exOf xs code))) := by
  refine ret_of_run (N := 20) Try.func129 rfl rfl rfl ?_
  obtain ⟨hd, H⟩ := H0
  have hn := H.len
  have hn6 := H.n64
  have E : Ext w w := Ext.refl w
  refine run_seq ?_
  refine run_region ?_
  refine ov (xassign rfl) rfl rfl rfl ?_
  refine ops_nil ?_
  refine run_seq ?_
  refine run_seq ?_
  refine run_region ?_
  refine ov (xassign rfl) rfl rfl rfl ?_
  refine ops_nil ?_
  refine run_block ?_
  refine run_loop (ι := Nat × World) (fun x_ => match x_ with | (k, wr) => (Ext w wr) ∧ (w.heap.size ≤ wr.heap.size) ∧ (k ≤ n) ∧ (∀ j (hj : j < xs.length), j < k → (fun x : Exhibit => decide (x.Code = code)) xs[j] = false)) (fun x_ => match x_ with | (k, wr) => [(0, .slice p n c), (1, .string code), (5, .int .i64 (k : Int))]) (fun x_ => match x_ with | (k, wr) => wr) (fun x_ => match x_ with | (k, wr) => n - k) ?_ (0, w) (⟨E, Nat.le_refl _, by omega, fun j hj h => absurd h (Nat.not_lt_zero j)⟩) ⟨rfl, rfl, rfl, trivial⟩ rfl
  intro i_ hI_ hback2
  obtain ⟨k, wr⟩ := i_
  obtain ⟨E, lz_wr, hk, ha⟩ := hI_
  try dsimp only
  have zr := E.size
  refine run_seq ?_
  refine run_seq ?_
  refine run_region ?_
  refine ov (xmove rfl) rfl rfl rfl ?_
  refine ov (xmove rfl) rfl rfl rfl ?_
  refine ov (xlen Try.underlying85 rfl) rfl rfl rfl ?_
  refine ov (xlss rfl rfl _ rfl) rfl rfl rfl ?_
  refine ods (fun c9 => ?_) (fun c9 => ?_)
  ·
    refine ops_nil ?_
    refine run_cond_t rfl ?_
    refine run_skip ?_
    refine run_seq ?_
    refine run_block ?_
    refine run_seq ?_
    refine run_region ?_
    refine ov (xmove rfl) rfl rfl rfl ?_
    refine ov (xmove rfl) rfl rfl rfl ?_
    have h14 := (H.ext E).at (i := k) (by omega)
    refine ov (xindexN (i := k) Try.underlying85 Try.sizeOf49 rfl rfl rfl ((H.ext E).p (i := k) (by omega)) (by have := (H.ext E).len; omega)) rfl rfl rfl ?_
    refine ov (xfieldAddr fo49f0 rfl) rfl rfl rfl ?_
    refine ov (v := .string xs[k].Code) (xload1 Try.isAgg9 rfl (h14) rfl) rfl rfl rfl ?_
    refine ov (xmove rfl) rfl rfl rfl ?_
    refine ov (xseql rfl rfl _ rfl) rfl rfl rfl ?_
    refine ods (fun c18 => ?_) (fun c18 => ?_)
    ·
      refine ops_nil ?_
      refine run_cond_t rfl ?_
      refine run_seq ?_
      refine run_region ?_
      refine ov (xmove rfl) rfl rfl rfl ?_
      refine ov (xassign rfl) rfl rfl rfl ?_
      refine ops_nil ?_
      refine run_ret Try.func129 (res1 rfl rfl) ?_
      exact ⟨_, rfl, by rw [exOf, findI_at (f := fun x : Exhibit => decide (x.Code = code)) (k := k) (by omega) (decide_eq_true c18) ha], E⟩
    ·
      refine ops_nil ?_
      refine run_cond_f rfl ?_
      refine run_skip ?_
      refine run_inBlock ?_
      refine run_region ?_
      refine ov (xmove rfl) rfl rfl rfl ?_
      refine ov (xadd rfl rfl (by unfold I64; omega)) rfl rfl rfl ?_
      refine ov (xassign rfl) rfl rfl rfl ?_
      refine ops_nil ?_
      refine run_sub ?_ (hback2 (k + 1, wr) (⟨E, by omega, by omega, below_succ (q := fun x => (fun x : Exhibit => decide (x.Code = code)) x = false) ha (fun _ => decide_eq_false c18)⟩) (by first | omega | (dsimp only; omega)))
      exact ⟨rfl, rfl, rfl, trivial⟩
  ·
    refine ops_nil ?_
    refine run_cond_f rfl ?_
    refine run_exit rfl ?_
    refine run_seq ?_
    refine run_region ?_
    refine ov (xassign rfl) rfl rfl rfl ?_
    refine ops_nil ?_
    refine run_ret Try.func129 (res1 rfl rfl) ?_
    exact ⟨_, rfl, by rw [exOf, findI_none (fun j hj => ha j hj (by omega))], E⟩

set_option maxHeartbeats 1000000 in
theorem WhyUnseen_ok (p : Option Addr) (n c : Nat) (rs : List Ruling) (q : Option Addr) (m d : Nat) (xs : List Exhibit) (code : ByteArray) (day : Int) (w : World) (H : Sl Ruling.cells 3 w p n c rs) (K0 : SnExhibitS w q m d xs) (hr : ∀ r ∈ rs, r.Code.size ≤ 9223372036854775807) (hx : ∀ x ∈ xs, exSmall x) : Ret Try.prog 76 [.slice p n c, .slice q m d, .string code, .int .i64 day] w (Pv w (.tuple #[.int .i64 (whyUnseen rs xs code day).1, .int .i64 (whyUnseen rs xs code day).2])) := by
  refine ret_of_run (N := 35) Try.func76 rfl rfl rfl ?_
  obtain ⟨he_, K⟩ := K0
  have hm := K.len
  have hm6 := K.n64
  have hn := H.len
  have E : Ext w w := Ext.refl w
  refine run_seq ?_
  refine run_region ?_
  refine ov (xassign rfl) rfl rfl rfl ?_
  refine ov (xassign rfl) rfl rfl rfl ?_
  refine ops_nil ?_
  refine run_seq ?_
  refine run_seq ?_
  refine run_region ?_
  refine ov (xmove rfl) rfl rfl rfl ?_
  refine ov (xmove rfl) rfl rfl rfl ?_
  refine ov (xmove rfl) rfl rfl rfl ?_
  refine oc (xcall Try.call128 rfl) rfl rfl rfl (rulingCode_ok _ _ _ _ _ _ _ _ (day) _ (H.ext E) (K.ext E).sn (by assumption) (by assumption)) ?_
  rintro _ w1 ⟨rfl, e1⟩
  have z1 := e1.size
  have E := E.trans e1
  refine ov (xassign rfl) rfl rfl rfl ?_
  refine ops_nil ?_
  refine run_seq ?_
  refine run_region ?_
  refine ov (xmove rfl) rfl rfl rfl ?_
  refine ov (xneq rfl rfl _ rfl) rfl rfl rfl ?_
  refine ods (fun c18 => ?_) (fun c18 => ?_)
  ·
    refine ops_nil ?_
    refine run_cond_t rfl ?_
    refine run_seq ?_
    refine run_region ?_
    refine ov (xmove rfl) rfl rfl rfl ?_
    refine ov (xassign rfl) rfl rfl rfl ?_
    refine ov (xassign rfl) rfl rfl rfl ?_
    refine ops_nil ?_
    refine run_ret Try.func76 (res2 rfl rfl rfl) ?_
    exact ⟨_, rfl, by rw [whyUnseen, if_pos (by omega)], E⟩
  ·
    have hz_ := rulCode_zero (by omega : rulCode rs xs day = 0)
    refine ops_nil ?_
    refine run_cond_f rfl ?_
    refine run_skip ?_
    refine run_seq ?_
    refine run_seq ?_
    refine run_region ?_
    refine ov (xmove rfl) rfl rfl rfl ?_
    refine ov (xlen Try.underlying85 rfl) rfl rfl rfl ?_
    refine ov (xmove rfl) rfl rfl rfl ?_
    refine ops_nil ?_
    refine run_block ?_
    refine run_loop (ι := Nat × World) (fun x_ => match x_ with | (k, wr) => (Ext w wr) ∧ (w1.heap.size ≤ wr.heap.size) ∧ (k ≤ m) ∧ (∀ j (hj : j < xs.length), j < k → (fun x : Exhibit => decide (x.Code = code)) xs[j] = false)) (fun x_ => match x_ with | (k, wr) => [(0, .slice p n c), (2, .string code), (3, .int .i64 day), (20, .slice q m d), (21, .int .i64 (m : Int)), (22, .int .i64 (k : Int))]) (fun x_ => match x_ with | (k, wr) => wr) (fun x_ => match x_ with | (k, wr) => m - k) ?_ (0, w1) (⟨E, Nat.le_refl _, by omega, fun j hj h => absurd h (Nat.not_lt_zero j)⟩) ⟨rfl, rfl, rfl, rfl, rfl, rfl, trivial⟩ rfl
    intro i_ hI_ hback5
    obtain ⟨k, wr⟩ := i_
    obtain ⟨E, lz_wr, hk, ha⟩ := hI_
    try dsimp only
    have zr := E.size
    refine run_seq ?_
    refine run_region ?_
    refine ov (xlss rfl rfl _ rfl) rfl rfl rfl ?_
    refine ods (fun c23 => ?_) (fun c23 => ?_)
    ·
      refine ops_nil ?_
      refine run_seq ?_
      refine run_cond_t rfl ?_
      refine run_skip ?_
      refine run_seq ?_
      refine run_block ?_
      refine run_seq ?_
      refine run_region ?_
      have h24 := (K.ext E).at (i := k) (by omega)
      refine ov (xindexN (i := k) Try.underlying85 Try.sizeOf49 rfl rfl rfl ((K.ext E).p (i := k) (by omega)) (by have := (K.ext E).len; omega)) rfl rfl rfl ?_
      refine ov (v := .agg #[.string xs[k].Code, .string xs[k].Found, .int .i64 xs[k].Day, .int .i64 xs[k].Seal, .slice (he_ k).p (he_ k).n (he_ k).c]) (xloadN Try.isAgg49 Try.sizeOf49 rfl (h24) rfl) rfl rfl rfl ?_
      refine oalloc Try.zeroValue49 rfl rfl ?_
      intro b2 w2 e2 hb2 hz2 O2
      have E := E.trans e2
      replace O2 : Own w2 b2 [.string ⟨#[]⟩, .string ⟨#[]⟩, .int .i64 0, .int .i64 0, .slice none 0 0] 49 := O2
      refine ostoreN (vs := _) Try.sizeOf49 rfl rfl O2 rfl (by simp) (by simp [Value.oneCell']) rfl ?_
      intro w3 on3 O3
      have hz3 := on3.size
      have E := on3.ext E (by omega)
      replace O3 : Own w3 b2 [.string xs[k].Code, .string xs[k].Found, .int .i64 xs[k].Day, .int .i64 xs[k].Seal, .slice (he_ k).p (he_ k).n (he_ k).c] 49 := O3
      refine ops_nil ?_
      refine run_seq ?_
      refine run_region ?_
      refine ov (xfieldAddr fo49f0 rfl) rfl rfl rfl ?_
      refine ov (v := .string xs[k].Code) (xload1 Try.isAgg9 rfl (O3.cells) rfl) rfl rfl rfl ?_
      refine ov (xmove rfl) rfl rfl rfl ?_
      refine ov (xseql rfl rfl _ rfl) rfl rfl rfl ?_
      refine ods (fun c29 => ?_) (fun c29 => ?_)
      ·
        refine ops_nil ?_
        refine run_cond_t rfl ?_
        refine run_seq ?_
        refine run_region ?_
        refine ov (xmove rfl) rfl rfl rfl ?_
        refine ov (v := .agg #[.string xs[k].Code, .string xs[k].Found, .int .i64 xs[k].Day, .int .i64 xs[k].Seal, .slice (he_ k).p (he_ k).n (he_ k).c]) (xloadN Try.isAgg49 Try.sizeOf49 rfl (O3.cells) rfl) rfl rfl rfl ?_
        refine ov (xmove rfl) rfl rfl rfl ?_
        have hxk := areExhibits_is hz_.2.1 (by omega : k < xs.length)
        have hsk := hx _ (List.getElem_mem (by omega : k < xs.length))
        refine oc (xcall Try.call131 rfl) rfl rfl rfl (unseen_ok _ _ _ _ _ _ (day) _ (H.ext E) ((show Sl Handing.cells 4 _ _ _ _ xs[k].Chain from (K.inner (i := k) (by omega)).ext E)) (by assumption) (by assumption)) ?_
        rintro _ w4 ⟨rfl, e4⟩
        have z4 := e4.size
        have E := E.trans e4
        replace O3 := O3.ext e4
        refine ov (xassign rfl) rfl rfl rfl ?_
        refine ov (xassign rfl) rfl rfl rfl ?_
        refine ops_nil ?_
        refine run_ret Try.func76 (res2 rfl rfl rfl) ?_
        have hf_ : exOf xs code = k := by rw [exOf, findI_at (f := fun x : Exhibit => decide (x.Code = code)) (k := k) (by omega) (decide_eq_true c29) ha]
        have hg_ : getX xs (exOf xs code) = xs[k] := by rw [hf_, getX_eq (by omega)]; simp only [Int.toNat_natCast]
        exact ⟨_, rfl, by rw [whyUnseen, if_neg (by omega), if_neg (by omega), hg_], E⟩
      ·
        refine ops_nil ?_
        refine run_cond_f rfl ?_
        refine run_skip ?_
        refine run_inBlock ?_
        refine run_region ?_
        refine ov (xadd rfl rfl (by unfold I64; omega)) rfl rfl rfl ?_
        refine ov (xmove rfl) rfl rfl rfl ?_
        refine ops_nil ?_
        refine run_sub ?_ (hback5 (k + 1, w3) (⟨E, by omega, by omega, below_succ (q := fun x => (fun x : Exhibit => decide (x.Code = code)) x = false) ha (fun _ => decide_eq_false c29)⟩) (by first | omega | (dsimp only; omega)))
        exact ⟨rfl, rfl, rfl, rfl, rfl, rfl, trivial⟩
    ·
      refine ops_nil ?_
      refine run_seq ?_
      refine run_cond_f rfl ?_
      refine run_exit rfl ?_
      refine run_seq ?_
      refine run_region ?_
      refine ov (xassign rfl) rfl rfl rfl ?_
      refine ov (xassign rfl) rfl rfl rfl ?_
      refine ops_nil ?_
      refine run_ret Try.func76 (res2 rfl rfl rfl) ?_
      have hf_ : exOf xs code = -1 := by rw [exOf, findI_none (fun j hj => ha j hj (by omega))]
      exact ⟨_, rfl, by rw [whyUnseen, if_neg (by omega), if_pos (by omega)], E⟩

set_option maxHeartbeats 1000000 in
theorem sWhyUnseen_ok (p : Option Addr) (n c : Nat) (rs : List Ruling) (q : Option Addr) (m d : Nat) (xs : List Exhibit) (code : ByteArray) (day : Int) (w : World) (H : Sl Ruling.cells 3 w p n c rs) (K0 : SnExhibitS w q m d xs) (hr : ∀ r ∈ rs, r.Code.size ≤ 9223372036854775807) (hx : ∀ x ∈ xs, exSmall x) : Ret Try.prog 75 [.slice p n c, .slice q m d, .string code, .int .i64 day] w (Pv w (.tuple #[.int .i64 (whyUnseen rs xs code day).1, .int .i64 (whyUnseen rs xs code day).2])) := by
  refine ret_of_run (N := 35) Try.func75 rfl rfl rfl ?_
  obtain ⟨he_, K⟩ := K0
  have hm := K.len
  have hm6 := K.n64
  have hn := H.len
  have hfl := exOf_lt xs code
  have E : Ext w w := Ext.refl w
  refine run_seq ?_
  refine run_region ?_
  refine ov (xassign rfl) rfl rfl rfl ?_
  refine ov (xassign rfl) rfl rfl rfl ?_
  refine ops_nil ?_
  refine run_seq ?_
  refine run_region ?_
  refine ov (xmove rfl) rfl rfl rfl ?_
  refine ov (xmove rfl) rfl rfl rfl ?_
  refine ov (xmove rfl) rfl rfl rfl ?_
  refine oc (xcall Try.call127 rfl) rfl rfl rfl (l25Code_ok _ _ _ _ _ _ _ _ (day) _ (H.ext E) (K.ext E).sn (by assumption) (by assumption)) ?_
  rintro _ w1 ⟨rfl, e1⟩
  have z1 := e1.size
  have E := E.trans e1
  refine ov (xassign rfl) rfl rfl rfl ?_
  refine ops_nil ?_
  refine run_seq ?_
  refine run_region ?_
  refine ov (xmove rfl) rfl rfl rfl ?_
  refine ov (xmove rfl) rfl rfl rfl ?_
  refine oc (xcall Try.call129 rfl) rfl rfl rfl (l25Find_ok _ _ _ _ (code) _ (K.ext E).sn) ?_
  rintro _ w2 ⟨rfl, e2⟩
  have z2 := e2.size
  have E := E.trans e2
  refine ov (xassign rfl) rfl rfl rfl ?_
  refine ops_nil ?_
  refine run_seq ?_
  refine run_seq ?_
  refine run_region ?_
  refine ov (xmove rfl) rfl rfl rfl ?_
  refine ov (xeql rfl rfl _ rfl) rfl rfl rfl ?_
  refine ods (fun c20 => ?_) (fun c20 => ?_)
  ·
    refine ov (xmove rfl) rfl rfl rfl ?_
    refine ov (xmove rfl) rfl rfl rfl ?_
    refine ov (xlss rfl rfl _ rfl) rfl rfl rfl ?_
    refine ods (fun c23 => ?_) (fun c23 => ?_)
    ·
      refine ov (xpick_t rfl rfl) rfl rfl rfl ?_
      refine ops_nil ?_
      refine run_cond_t rfl ?_
      refine run_region ?_
      refine ov (xassign rfl) rfl rfl rfl ?_
      refine ops_nil ?_
      refine run_seq ?_
      refine run_seq ?_
      refine run_region ?_
      refine ov (xmove rfl) rfl rfl rfl ?_
      refine ov (xneq rfl rfl _ rfl) rfl rfl rfl ?_
      refine ods (fun c26 => ?_) (fun c26 => ?_)
      ·
        refine ops_nil ?_
        refine run_cond_t rfl ?_
        refine run_seq ?_
        refine run_region ?_
        refine ov (xmove rfl) rfl rfl rfl ?_
        refine ov (xassign rfl) rfl rfl rfl ?_
        refine ov (xassign rfl) rfl rfl rfl ?_
        refine ops_nil ?_
        refine run_ret Try.func75 (res2 rfl rfl rfl) ?_
        have he_ : whyUnseen rs xs code day = (0, 4) := by unfold whyUnseen; (repeat' split) <;> first | rfl | (exfalso; omega) | (rw [getX_eq (by omega)])
        exact ⟨_, rfl, by rw [he_], E⟩
      · exfalso; omega
    ·
      refine ov (xpick_t rfl rfl) rfl rfl rfl ?_
      refine ops_nil ?_
      refine run_cond_f rfl ?_
      refine run_skip ?_
      refine run_seq ?_
      refine run_seq ?_
      refine run_region ?_
      refine ov (xmove rfl) rfl rfl rfl ?_
      refine ov (xneq rfl rfl _ rfl) rfl rfl rfl ?_
      refine ods (fun c26 => ?_) (fun c26 => ?_)
      ·
        refine ops_nil ?_
        refine run_cond_t rfl ?_
        refine run_seq ?_
        refine run_region ?_
        refine ov (xmove rfl) rfl rfl rfl ?_
        refine ov (xassign rfl) rfl rfl rfl ?_
        refine ov (xassign rfl) rfl rfl rfl ?_
        refine ops_nil ?_
        refine run_ret Try.func75 (res2 rfl rfl rfl) ?_
        have he_ : whyUnseen rs xs code day = (0, (rulCode rs xs day)) := by unfold whyUnseen; (repeat' split) <;> first | rfl | (exfalso; omega) | (rw [getX_eq (by omega)])
        exact ⟨_, rfl, by rw [he_], E⟩
      ·
        refine ops_nil ?_
        refine run_cond_f rfl ?_
        refine run_skip ?_
        refine run_seq ?_
        refine run_region ?_
        refine ov (xmove rfl) rfl rfl rfl ?_
        refine ov (xmove rfl) rfl rfl rfl ?_
        refine ov (xmove rfl) rfl rfl rfl ?_
        have h31 := (K.ext E).at (i := (exOf xs code).toNat) (by omega)
        refine ov (xindexN (i := (exOf xs code).toNat) Try.underlying85 Try.sizeOf49 rfl rfl (by omega) ((K.ext E).p (i := (exOf xs code).toNat) (by omega)) (by have := (K.ext E).len; omega)) rfl rfl rfl ?_
        refine ov (v := .agg #[.string xs[(exOf xs code).toNat].Code, .string xs[(exOf xs code).toNat].Found, .int .i64 xs[(exOf xs code).toNat].Day, .int .i64 xs[(exOf xs code).toNat].Seal, .slice (he_ (exOf xs code).toNat).p (he_ (exOf xs code).toNat).n (he_ (exOf xs code).toNat).c]) (xloadN Try.isAgg49 Try.sizeOf49 rfl (h31) rfl) rfl rfl rfl ?_
        refine ov (xmove rfl) rfl rfl rfl ?_
        have hz_ := rulCode_zero (by omega : rulCode rs xs day = 0)
        have hxk := areExhibits_is hz_.2.1 (by omega : (exOf xs code).toNat < xs.length)
        have hsk := hx _ (List.getElem_mem (by omega : (exOf xs code).toNat < xs.length))
        refine oc (xcall Try.call130 rfl) rfl rfl rfl (l25Why_ok _ _ _ _ _ _ (day) _ (H.ext E) ((show Sl Handing.cells 4 _ _ _ _ xs[(exOf xs code).toNat].Chain from (K.inner (i := (exOf xs code).toNat) (by omega)).ext E)) (by assumption) (by assumption)) ?_
        rintro _ w3 ⟨rfl, e3⟩
        have z3 := e3.size
        have E := E.trans e3
        refine ov (xassign rfl) rfl rfl rfl ?_
        refine ov (xassign rfl) rfl rfl rfl ?_
        refine ops_nil ?_
        refine run_ret Try.func75 (res2 rfl rfl rfl) ?_
        have he_ : whyUnseen rs xs code day = ((unseen rs xs[(exOf xs code).toNat] day), 0) := by unfold whyUnseen; (repeat' split) <;> first | rfl | (exfalso; omega) | (rw [getX_eq (by omega)])
        exact ⟨_, rfl, by rw [he_], E⟩
  ·
    refine ov (xmove rfl) rfl rfl rfl ?_
    refine og rfl rfl rfl ?_
    refine og rfl rfl rfl ?_
    refine ov (xpick_f rfl rfl) rfl rfl rfl ?_
    refine ops_nil ?_
    refine run_cond_f rfl ?_
    refine run_skip ?_
    refine run_seq ?_
    refine run_seq ?_
    refine run_region ?_
    refine ov (xmove rfl) rfl rfl rfl ?_
    refine ov (xneq rfl rfl _ rfl) rfl rfl rfl ?_
    refine ods (fun c26 => ?_) (fun c26 => ?_)
    ·
      refine ops_nil ?_
      refine run_cond_t rfl ?_
      refine run_seq ?_
      refine run_region ?_
      refine ov (xmove rfl) rfl rfl rfl ?_
      refine ov (xassign rfl) rfl rfl rfl ?_
      refine ov (xassign rfl) rfl rfl rfl ?_
      refine ops_nil ?_
      refine run_ret Try.func75 (res2 rfl rfl rfl) ?_
      have he_ : whyUnseen rs xs code day = (0, (rulCode rs xs day)) := by unfold whyUnseen; (repeat' split) <;> first | rfl | (exfalso; omega) | (rw [getX_eq (by omega)])
      exact ⟨_, rfl, by rw [he_], E⟩
    ·
      refine ops_nil ?_
      refine run_cond_f rfl ?_
      refine run_skip ?_
      refine run_seq ?_
      refine run_region ?_
      refine ov (xmove rfl) rfl rfl rfl ?_
      refine ov (xmove rfl) rfl rfl rfl ?_
      refine ov (xmove rfl) rfl rfl rfl ?_
      have h31 := (K.ext E).at (i := (exOf xs code).toNat) (by omega)
      refine ov (xindexN (i := (exOf xs code).toNat) Try.underlying85 Try.sizeOf49 rfl rfl (by omega) ((K.ext E).p (i := (exOf xs code).toNat) (by omega)) (by have := (K.ext E).len; omega)) rfl rfl rfl ?_
      refine ov (v := .agg #[.string xs[(exOf xs code).toNat].Code, .string xs[(exOf xs code).toNat].Found, .int .i64 xs[(exOf xs code).toNat].Day, .int .i64 xs[(exOf xs code).toNat].Seal, .slice (he_ (exOf xs code).toNat).p (he_ (exOf xs code).toNat).n (he_ (exOf xs code).toNat).c]) (xloadN Try.isAgg49 Try.sizeOf49 rfl (h31) rfl) rfl rfl rfl ?_
      refine ov (xmove rfl) rfl rfl rfl ?_
      have hz_ := rulCode_zero (by omega : rulCode rs xs day = 0)
      have hxk := areExhibits_is hz_.2.1 (by omega : (exOf xs code).toNat < xs.length)
      have hsk := hx _ (List.getElem_mem (by omega : (exOf xs code).toNat < xs.length))
      refine oc (xcall Try.call130 rfl) rfl rfl rfl (l25Why_ok _ _ _ _ _ _ (day) _ (H.ext E) ((show Sl Handing.cells 4 _ _ _ _ xs[(exOf xs code).toNat].Chain from (K.inner (i := (exOf xs code).toNat) (by omega)).ext E)) (by assumption) (by assumption)) ?_
      rintro _ w3 ⟨rfl, e3⟩
      have z3 := e3.size
      have E := E.trans e3
      refine ov (xassign rfl) rfl rfl rfl ?_
      refine ov (xassign rfl) rfl rfl rfl ?_
      refine ops_nil ?_
      refine run_ret Try.func75 (res2 rfl rfl rfl) ?_
      have he_ : whyUnseen rs xs code day = ((unseen rs xs[(exOf xs code).toNat] day), 0) := by unfold whyUnseen; (repeat' split) <;> first | rfl | (exfalso; omega) | (rw [getX_eq (by omega)])
      exact ⟨_, rfl, by rw [he_], E⟩

set_option maxHeartbeats 400000 in
theorem DoSee_ok (p : Option Addr) (n c : Nat) (rs : List Ruling) (q : Option Addr) (m d : Nat) (xs : List Exhibit) (code : ByteArray) (day : Int) (w : World) (H : Sl Ruling.cells 3 w p n c rs) (K0 : SnExhibitS w q m d xs) (hr : ∀ r ∈ rs, r.Code.size ≤ 9223372036854775807) (hx : ∀ x ∈ xs, exSmall x) : Ret Try.prog 78 [.slice p n c, .slice q m d, .string code, .int .i64 day] w (Pv w (.tuple #[.bool (doSee rs xs code day).1, .int .i64 (doSee rs xs code day).2])) := by
  refine ret_of_run (N := 27) Try.func78 rfl rfl rfl ?_
  have E : Ext w w := Ext.refl w
  refine run_seq ?_
  refine run_region ?_
  refine ov (xassign rfl) rfl rfl rfl ?_
  refine ov (xassign rfl) rfl rfl rfl ?_
  refine ops_nil ?_
  refine run_seq ?_
  refine run_region ?_
  refine ov (xmove rfl) rfl rfl rfl ?_
  refine ov (xmove rfl) rfl rfl rfl ?_
  refine ov (xmove rfl) rfl rfl rfl ?_
  refine ov (xmove rfl) rfl rfl rfl ?_
  refine oc (xcall Try.call76 rfl) rfl rfl rfl (WhyUnseen_ok _ _ _ _ _ _ _ _ (code) (day) _ (H.ext E) (K0.ext E) (by assumption) (by assumption)) ?_
  rintro _ w1 ⟨rfl, e1⟩
  have z1 := e1.size
  have E := E.trans e1
  refine ov (xmove rfl) rfl rfl rfl ?_
  refine ov (xextract rfl rfl) rfl rfl rfl ?_
  refine ov (xextract rfl rfl) rfl rfl rfl ?_
  refine ov (xassign rfl) rfl rfl rfl ?_
  refine ov (xassign rfl) rfl rfl rfl ?_
  refine ops_nil ?_
  refine run_seq ?_
  refine run_region ?_
  refine ov (xmove rfl) rfl rfl rfl ?_
  refine ov (xeql rfl rfl _ rfl) rfl rfl rfl ?_
  refine ods (fun c21 => ?_) (fun c21 => ?_)
  ·
    refine ov (xmove rfl) rfl rfl rfl ?_
    refine ov (xmove rfl) rfl rfl rfl ?_
    refine ov (xeql rfl rfl _ rfl) rfl rfl rfl ?_
    refine ov (xpick_t rfl rfl) rfl rfl rfl ?_
    refine ov (xmove rfl) rfl rfl rfl ?_
    refine ov (xassign rfl) rfl rfl rfl ?_
    refine ov (xassign rfl) rfl rfl rfl ?_
    refine ops_nil ?_
    refine run_ret Try.func78 (res2 rfl rfl rfl) ?_
    exact ⟨_, rfl, by simp [doSee, c21], E⟩
  ·
    refine ov (xmove rfl) rfl rfl rfl ?_
    refine og rfl rfl rfl ?_
    refine og rfl rfl rfl ?_
    refine ov (xpick_f rfl rfl) rfl rfl rfl ?_
    refine ov (xmove rfl) rfl rfl rfl ?_
    refine ov (xassign rfl) rfl rfl rfl ?_
    refine ov (xassign rfl) rfl rfl rfl ?_
    refine ops_nil ?_
    refine run_ret Try.func78 (res2 rfl rfl rfl) ?_
    exact ⟨_, rfl, by simp [doSee, c21], E⟩

set_option maxHeartbeats 400000 in
theorem sDoSee_ok (p : Option Addr) (n c : Nat) (rs : List Ruling) (q : Option Addr) (m d : Nat) (xs : List Exhibit) (code : ByteArray) (day : Int) (w : World) (H : Sl Ruling.cells 3 w p n c rs) (K0 : SnExhibitS w q m d xs) (hr : ∀ r ∈ rs, r.Code.size ≤ 9223372036854775807) (hx : ∀ x ∈ xs, exSmall x) : Ret Try.prog 77 [.slice p n c, .slice q m d, .string code, .int .i64 day] w (Pv w (.tuple #[.bool (doSee rs xs code day).1, .int .i64 (doSee rs xs code day).2])) := by
  refine ret_of_run (N := 27) Try.func77 rfl rfl rfl ?_
  have E : Ext w w := Ext.refl w
  refine run_seq ?_
  refine run_region ?_
  refine ov (xassign rfl) rfl rfl rfl ?_
  refine ov (xassign rfl) rfl rfl rfl ?_
  refine ops_nil ?_
  refine run_seq ?_
  refine run_region ?_
  refine ov (xmove rfl) rfl rfl rfl ?_
  refine ov (xmove rfl) rfl rfl rfl ?_
  refine ov (xmove rfl) rfl rfl rfl ?_
  refine ov (xmove rfl) rfl rfl rfl ?_
  refine oc (xcall Try.call75 rfl) rfl rfl rfl (sWhyUnseen_ok _ _ _ _ _ _ _ _ (code) (day) _ (H.ext E) (K0.ext E) (by assumption) (by assumption)) ?_
  rintro _ w1 ⟨rfl, e1⟩
  have z1 := e1.size
  have E := E.trans e1
  refine ov (xmove rfl) rfl rfl rfl ?_
  refine ov (xextract rfl rfl) rfl rfl rfl ?_
  refine ov (xextract rfl rfl) rfl rfl rfl ?_
  refine ov (xassign rfl) rfl rfl rfl ?_
  refine ov (xassign rfl) rfl rfl rfl ?_
  refine ops_nil ?_
  refine run_seq ?_
  refine run_region ?_
  refine ov (xmove rfl) rfl rfl rfl ?_
  refine ov (xeql rfl rfl _ rfl) rfl rfl rfl ?_
  refine ods (fun c21 => ?_) (fun c21 => ?_)
  ·
    refine ov (xmove rfl) rfl rfl rfl ?_
    refine ov (xmove rfl) rfl rfl rfl ?_
    refine ov (xeql rfl rfl _ rfl) rfl rfl rfl ?_
    refine ov (xpick_t rfl rfl) rfl rfl rfl ?_
    refine ov (xmove rfl) rfl rfl rfl ?_
    refine ov (xassign rfl) rfl rfl rfl ?_
    refine ov (xassign rfl) rfl rfl rfl ?_
    refine ops_nil ?_
    refine run_ret Try.func77 (res2 rfl rfl rfl) ?_
    exact ⟨_, rfl, by simp [doSee, c21], E⟩
  ·
    refine ov (xmove rfl) rfl rfl rfl ?_
    refine og rfl rfl rfl ?_
    refine og rfl rfl rfl ?_
    refine ov (xpick_f rfl rfl) rfl rfl rfl ?_
    refine ov (xmove rfl) rfl rfl rfl ?_
    refine ov (xassign rfl) rfl rfl rfl ?_
    refine ov (xassign rfl) rfl rfl rfl ?_
    refine ops_nil ?_
    refine run_ret Try.func77 (res2 rfl rfl rfl) ?_
    exact ⟨_, rfl, by simp [doSee, c21], E⟩

set_option maxHeartbeats 1000000 in
theorem SeenOn_ok (p : Option Addr) (n c : Nat) (rs : List Ruling) (q : Option Addr) (m d : Nat) (xs : List Exhibit) (day : Int) (w : World) (H : Sl Ruling.cells 3 w p n c rs) (K0 : SnExhibitS w q m d xs) (hr : ∀ r ∈ rs, r.Code.size ≤ 9223372036854775807) (hx : ∀ x ∈ xs, exSmall x) : Ret Try.prog 80 [.slice p n c, .slice q m d, .int .i64 day] w (fun v w' => Ext w w' ∧ ∃ q m d, v = .tuple #[.slice q m d, .int .i64 (seenOn rs xs day).2] ∧ Ow strc 1 9 w' w.heap.size w'.heap.size q m d (seenOn rs xs day).1) := by
  refine ret_of_run (N := 38) Try.func80 rfl rfl rfl ?_
  obtain ⟨he_, K⟩ := K0
  have hm := K.len
  have hm6 := K.n64
  have hn := H.len
  have E : Ext w w := Ext.refl w
  refine run_seq ?_
  refine run_region ?_
  refine ov (xassign rfl) rfl rfl rfl ?_
  refine ov (xassign rfl) rfl rfl rfl ?_
  refine ops_nil ?_
  refine run_seq ?_
  refine run_seq ?_
  refine run_region ?_
  refine ov (xmove rfl) rfl rfl rfl ?_
  refine ov (xmove rfl) rfl rfl rfl ?_
  refine ov (xmove rfl) rfl rfl rfl ?_
  refine oc (xcall Try.call128 rfl) rfl rfl rfl (rulingCode_ok _ _ _ _ _ _ _ _ (day) _ (H.ext E) (K.ext E).sn (by assumption) (by assumption)) ?_
  rintro _ w1 ⟨rfl, e1⟩
  have z1 := e1.size
  have E := E.trans e1
  refine ov (xassign rfl) rfl rfl rfl ?_
  refine ops_nil ?_
  refine run_seq ?_
  refine run_region ?_
  refine ov (xmove rfl) rfl rfl rfl ?_
  refine ov (xneq rfl rfl _ rfl) rfl rfl rfl ?_
  refine ods (fun c17 => ?_) (fun c17 => ?_)
  ·
    refine ops_nil ?_
    refine run_cond_t rfl ?_
    refine run_seq ?_
    refine run_region ?_
    refine ov (xmove rfl) rfl rfl rfl ?_
    refine ov (xassign rfl) rfl rfl rfl ?_
    refine ov (xassign rfl) rfl rfl rfl ?_
    refine ops_nil ?_
    refine run_ret Try.func80 (res2 rfl rfl rfl) ?_
    have he : seenOn rs xs day = ([], (rulCode rs xs day)) := by unfold seenOn; (repeat' split) <;> first | rfl | (exfalso; omega) | (rw [hy, List.take_of_length_le (by omega)])
    exact ⟨_, rfl, E, none, 0, 0, by rw [he], by rw [he]; exact Ow.none _ _ _ _ _ _⟩
  ·
    have hz_ := rulCode_zero (by omega : rulCode rs xs day = 0)
    have hl10_ := areExhibits_len hz_.2.1
    refine ops_nil ?_
    refine run_cond_f rfl ?_
    refine run_skip ?_
    refine run_seq ?_
    refine run_region ?_
    refine obuild (cs := []) (sz := 1) Try.underlying66 inf9 rfl rfl (by decide) rfl rfl (by simp [Value.cells]) rfl rfl rfl ?_
    intro b2 w2 e2 hb2 hz2 O2
    have E := E.trans e2
    have G2 : Ow strc 1 9 w2 b2 (b2 + 1) (some ⟨b2, 0, none⟩) 0 0 ([] : List ByteArray) := Own.ow (by simpa [strc] using O2) rfl (by omega) (Nat.le_refl _) (by omega) (by intro x hx; rfl)
    refine ov (xassign rfl) rfl rfl rfl ?_
    refine ops_nil ?_
    refine run_seq ?_
    refine run_seq ?_
    refine run_region ?_
    refine ov (xmove rfl) rfl rfl rfl ?_
    refine ov (xlen Try.underlying85 rfl) rfl rfl rfl ?_
    refine ov (xmove rfl) rfl rfl rfl ?_
    refine ops_nil ?_
    refine run_block ?_
    refine run_loop (ι := Nat × Option Addr × Nat × Nat × List ByteArray × World) (fun x_ => match x_ with | (k, q_9, m_9, c_9, ys_9, wr) => (Ext w wr) ∧ (Ow strc 1 9 wr b2 wr.heap.size q_9 m_9 c_9 ys_9) ∧ (b2 ≤ wr.heap.size) ∧ (w2.heap.size ≤ wr.heap.size) ∧ (k ≤ m) ∧ (ys_9 = ((xs.take k).filter fun x => decide (unseen rs x day = 0)).map (·.Code))) (fun x_ => match x_ with | (k, q_9, m_9, c_9, ys_9, wr) => [(0, .slice p n c), (2, .int .i64 day), (9, .slice q_9 m_9 c_9), (20, .slice q m d), (21, .int .i64 (m : Int)), (22, .int .i64 (k : Int))]) (fun x_ => match x_ with | (k, q_9, m_9, c_9, ys_9, wr) => wr) (fun x_ => match x_ with | (k, q_9, m_9, c_9, ys_9, wr) => m - k) ?_ (0, (some ⟨b2, 0, none⟩), 0, 0, [], w2) (⟨E, G2.wide (by omega) (by omega), by omega, Nat.le_refl _, by omega, by simp⟩) ⟨rfl, rfl, rfl, rfl, rfl, rfl, trivial⟩ rfl
    intro i_ hI_ hback6
    obtain ⟨k, q_9, m_9, c_9, ys_9, wr⟩ := i_
    obtain ⟨E, G_9, lo_9, lz_wr, hk, hy⟩ := hI_
    try dsimp only
    have zr := E.size
    have lg_9 := G_9.len
    have hml := xfilt_len hy
    refine run_seq ?_
    refine run_region ?_
    refine ov (xlss rfl rfl _ rfl) rfl rfl rfl ?_
    refine ods (fun c23 => ?_) (fun c23 => ?_)
    ·
      refine ops_nil ?_
      refine run_seq ?_
      refine run_cond_t rfl ?_
      refine run_skip ?_
      refine run_seq ?_
      refine run_block ?_
      refine run_seq ?_
      refine run_region ?_
      have h24 := (K.ext E).at (i := k) (by omega)
      refine ov (xindexN (i := k) Try.underlying85 Try.sizeOf49 rfl rfl rfl ((K.ext E).p (i := k) (by omega)) (by have := (K.ext E).len; omega)) rfl rfl rfl ?_
      refine ov (v := .agg #[.string xs[k].Code, .string xs[k].Found, .int .i64 xs[k].Day, .int .i64 xs[k].Seal, .slice (he_ k).p (he_ k).n (he_ k).c]) (xloadN Try.isAgg49 Try.sizeOf49 rfl (h24) rfl) rfl rfl rfl ?_
      refine oalloc Try.zeroValue49 rfl rfl ?_
      intro b3 w3 e3 hb3 hz3 O3
      have E := E.trans e3
      replace G_9 := G_9.ext e3
      replace O3 : Own w3 b3 [.string ⟨#[]⟩, .string ⟨#[]⟩, .int .i64 0, .int .i64 0, .slice none 0 0] 49 := O3
      refine ostoreN (vs := _) Try.sizeOf49 rfl rfl O3 rfl (by simp) (by simp [Value.oneCell']) rfl ?_
      intro w4 on4 O4
      have hz4 := on4.size
      have E := on4.ext E (by omega)
      replace G_9 := G_9.only on4 (by omega)
      replace O4 : Own w4 b3 [.string xs[k].Code, .string xs[k].Found, .int .i64 xs[k].Day, .int .i64 xs[k].Seal, .slice (he_ k).p (he_ k).n (he_ k).c] 49 := O4
      refine ops_nil ?_
      refine run_seq ?_
      refine run_region ?_
      refine ov (xmove rfl) rfl rfl rfl ?_
      refine ov (v := .agg #[.string xs[k].Code, .string xs[k].Found, .int .i64 xs[k].Day, .int .i64 xs[k].Seal, .slice (he_ k).p (he_ k).n (he_ k).c]) (xloadN Try.isAgg49 Try.sizeOf49 rfl (O4.cells) rfl) rfl rfl rfl ?_
      refine ov (xmove rfl) rfl rfl rfl ?_
      have hxk := areExhibits_is hz_.2.1 (by omega : k < xs.length)
      have hsk := hx _ (List.getElem_mem (by omega : k < xs.length))
      refine oc (xcall Try.call131 rfl) rfl rfl rfl (unseen_ok _ _ _ _ _ _ (day) _ (H.ext E) ((show Sl Handing.cells 4 _ _ _ _ xs[k].Chain from (K.inner (i := k) (by omega)).ext E)) (by assumption) (by assumption)) ?_
      rintro _ w5 ⟨rfl, e5⟩
      have z5 := e5.size
      have E := E.trans e5
      replace G_9 := G_9.ext e5
      replace O4 := O4.ext e5
      refine ov (xeql rfl rfl _ rfl) rfl rfl rfl ?_
      refine ods (fun c30 => ?_) (fun c30 => ?_)
      ·
        refine ops_nil ?_
        refine run_cond_t rfl ?_
        refine run_region ?_
        refine ov (xmove rfl) rfl rfl rfl ?_
        refine ov (xfieldAddr fo49f0 rfl) rfl rfl rfl ?_
        refine ov (v := .string xs[k].Code) (xload1 Try.isAgg9 rfl (O4.cells) rfl) rfl rfl rfl ?_
        refine obuild (cs := [.string xs[k].Code]) (sz := 1) Try.underlying66 inf9 rfl rfl (by decide) rfl rfl (by simp [Value.cells]) rfl rfl rfl ?_
        intro b6 w6 e6 hb6 hz6 O6
        have E := E.trans e6
        replace G_9 := G_9.ext e6
        replace O4 := O4.ext e6
        refine oapp (bytes := 16) (nm := (m_9 + 1)) G_9 rfl rfl elem9 (Own.sl1 (y := xs[k].Code) O6) (by intro h; cases h) (by intro y hy; rfl) (by intro y hy u hu; rw [List.mem_singleton] at hy; subst hy; revert u; simp [Value.oneCell', strc]) (by omega) (by omega) (by omega) (by omega) rfl rfl ?_
        intro p7 c7_ w7 m7 G7
        have hz7 := m7.size
        have E := m7.toExt E (by omega)
        try replace O4 := m7.own O4 (by omega)
        try replace O6 := m7.own O6 (by omega)
        refine ov (xassign rfl) rfl rfl rfl ?_
        refine ops_nil ?_
        refine run_inBlock ?_
        refine run_region ?_
        refine ov (xadd rfl rfl (by unfold I64; omega)) rfl rfl rfl ?_
        refine ov (xmove rfl) rfl rfl rfl ?_
        refine ops_nil ?_
        refine run_sub ?_ (hback6 (k + 1, p7, (m_9 + 1), c7_, ys_9 ++ [xs[k].Code], w7) (⟨E, G7.wide (by omega) (by omega), by omega, by omega, by omega, (xfilt_step (xs := xs) (k := k) (by omega) hy).1 (decide_eq_true c30)⟩) (by first | omega | (dsimp only; omega)))
        exact ⟨rfl, rfl, rfl, rfl, rfl, rfl, trivial⟩
      ·
        refine ops_nil ?_
        refine run_cond_f rfl ?_
        refine run_skip ?_
        refine run_inBlock ?_
        refine run_region ?_
        refine ov (xadd rfl rfl (by unfold I64; omega)) rfl rfl rfl ?_
        refine ov (xmove rfl) rfl rfl rfl ?_
        refine ops_nil ?_
        refine run_sub ?_ (hback6 (k + 1, q_9, m_9, c_9, ys_9, w5) (⟨E, G_9.wide (by omega) (by omega), by omega, by omega, by omega, (xfilt_step (xs := xs) (k := k) (by omega) hy).2 (decide_eq_false c30)⟩) (by first | omega | (dsimp only; omega)))
        exact ⟨rfl, rfl, rfl, rfl, rfl, rfl, trivial⟩
    ·
      refine ops_nil ?_
      refine run_seq ?_
      refine run_cond_f rfl ?_
      refine run_exit rfl ?_
      refine run_seq ?_
      refine run_region ?_
      refine ov (xmove rfl) rfl rfl rfl ?_
      refine ov (xassign rfl) rfl rfl rfl ?_
      refine ov (xassign rfl) rfl rfl rfl ?_
      refine ops_nil ?_
      refine run_ret Try.func80 (res2 rfl rfl rfl) ?_
      have he : seenOn rs xs day = (ys_9, 0) := by unfold seenOn; (repeat' split) <;> first | rfl | (exfalso; omega) | (rw [hy, List.take_of_length_le (by omega)])
      exact ⟨_, rfl, E, _, _, _, by rw [he], by rw [he]; exact G_9.wide (by omega) (by omega)⟩

set_option maxHeartbeats 1000000 in
theorem sSeenOn_ok (p : Option Addr) (n c : Nat) (rs : List Ruling) (q : Option Addr) (m d : Nat) (xs : List Exhibit) (day : Int) (w : World) (H : Sl Ruling.cells 3 w p n c rs) (K0 : SnExhibitS w q m d xs) (hr : ∀ r ∈ rs, r.Code.size ≤ 9223372036854775807) (hx : ∀ x ∈ xs, exSmall x) : Ret Try.prog 79 [.slice p n c, .slice q m d, .int .i64 day] w (fun v w' => Ext w w' ∧ ∃ q m d, v = .tuple #[.slice q m d, .int .i64 (seenOn rs xs day).2] ∧ Ow strc 1 9 w' w.heap.size w'.heap.size q m d (seenOn rs xs day).1) := by
  refine ret_of_run (N := 42) Try.func79 rfl rfl rfl ?_
  obtain ⟨he_, K⟩ := K0
  have hm := K.len
  have hm6 := K.n64
  have hn := H.len
  have E : Ext w w := Ext.refl w
  refine run_seq ?_
  refine run_region ?_
  refine ov (xassign rfl) rfl rfl rfl ?_
  refine ov (xassign rfl) rfl rfl rfl ?_
  refine ops_nil ?_
  refine run_seq ?_
  refine run_region ?_
  refine ov (xmove rfl) rfl rfl rfl ?_
  refine ov (xmove rfl) rfl rfl rfl ?_
  refine ov (xmove rfl) rfl rfl rfl ?_
  refine oc (xcall Try.call127 rfl) rfl rfl rfl (l25Code_ok _ _ _ _ _ _ _ _ (day) _ (H.ext E) (K.ext E).sn (by assumption) (by assumption)) ?_
  rintro _ w1 ⟨rfl, e1⟩
  have z1 := e1.size
  have E := E.trans e1
  refine ov (xassign rfl) rfl rfl rfl ?_
  refine ops_nil ?_
  refine run_seq ?_
  refine run_seq ?_
  refine run_region ?_
  refine ov (xmove rfl) rfl rfl rfl ?_
  refine ov (xneq rfl rfl _ rfl) rfl rfl rfl ?_
  refine ods (fun c16 => ?_) (fun c16 => ?_)
  ·
    refine ops_nil ?_
    refine run_cond_t rfl ?_
    refine run_seq ?_
    refine run_region ?_
    refine ov (xmove rfl) rfl rfl rfl ?_
    refine ov (xassign rfl) rfl rfl rfl ?_
    refine ov (xassign rfl) rfl rfl rfl ?_
    refine ops_nil ?_
    refine run_ret Try.func79 (res2 rfl rfl rfl) ?_
    have he : seenOn rs xs day = ([], (rulCode rs xs day)) := by unfold seenOn; (repeat' split) <;> first | rfl | (exfalso; omega) | (rw [hy, List.take_of_length_le (by omega)])
    exact ⟨_, rfl, E, none, 0, 0, by rw [he], by rw [he]; exact Ow.none _ _ _ _ _ _⟩
  ·
    have hz_ := rulCode_zero (by omega : rulCode rs xs day = 0)
    have hl10_ := areExhibits_len hz_.2.1
    refine ops_nil ?_
    refine run_cond_f rfl ?_
    refine run_skip ?_
    refine run_seq ?_
    refine run_region ?_
    refine obuild (cs := []) (sz := 1) Try.underlying66 inf9 rfl rfl (by decide) rfl rfl (by simp [Value.cells]) rfl rfl rfl ?_
    intro b2 w2 e2 hb2 hz2 O2
    have E := E.trans e2
    have G2 : Ow strc 1 9 w2 b2 (b2 + 1) (some ⟨b2, 0, none⟩) 0 0 ([] : List ByteArray) := Own.ow (by simpa [strc] using O2) rfl (by omega) (Nat.le_refl _) (by omega) (by intro x hx; rfl)
    refine ov (xassign rfl) rfl rfl rfl ?_
    refine ops_nil ?_
    refine run_seq ?_
    refine run_seq ?_
    refine run_region ?_
    refine ov (xassign rfl) rfl rfl rfl ?_
    refine ops_nil ?_
    refine run_block ?_
    refine run_loop (ι := Nat × Option Addr × Nat × Nat × List ByteArray × World) (fun x_ => match x_ with | (k, q_9, m_9, c_9, ys_9, wr) => (Ext w wr) ∧ (Ow strc 1 9 wr b2 wr.heap.size q_9 m_9 c_9 ys_9) ∧ (b2 ≤ wr.heap.size) ∧ (w2.heap.size ≤ wr.heap.size) ∧ (k ≤ m) ∧ (ys_9 = ((xs.take k).filter fun x => decide (unseen rs x day = 0)).map (·.Code))) (fun x_ => match x_ with | (k, q_9, m_9, c_9, ys_9, wr) => [(0, .slice p n c), (1, .slice q m d), (2, .int .i64 day), (9, .slice q_9 m_9 c_9), (10, .int .i64 (k : Int))]) (fun x_ => match x_ with | (k, q_9, m_9, c_9, ys_9, wr) => wr) (fun x_ => match x_ with | (k, q_9, m_9, c_9, ys_9, wr) => m - k) ?_ (0, (some ⟨b2, 0, none⟩), 0, 0, [], w2) (⟨E, G2.wide (by omega) (by omega), by omega, Nat.le_refl _, by omega, by simp⟩) ⟨rfl, rfl, rfl, rfl, rfl, trivial⟩ rfl
    intro i_ hI_ hback6
    obtain ⟨k, q_9, m_9, c_9, ys_9, wr⟩ := i_
    obtain ⟨E, G_9, lo_9, lz_wr, hk, hy⟩ := hI_
    try dsimp only
    have zr := E.size
    have lg_9 := G_9.len
    have hml := xfilt_len hy
    refine run_seq ?_
    refine run_seq ?_
    refine run_region ?_
    refine ov (xmove rfl) rfl rfl rfl ?_
    refine ov (xmove rfl) rfl rfl rfl ?_
    refine ov (xlen Try.underlying85 rfl) rfl rfl rfl ?_
    refine ov (xlss rfl rfl _ rfl) rfl rfl rfl ?_
    refine ods (fun c22 => ?_) (fun c22 => ?_)
    ·
      refine ops_nil ?_
      refine run_cond_t rfl ?_
      refine run_skip ?_
      refine run_seq ?_
      refine run_block ?_
      refine run_seq ?_
      refine run_region ?_
      refine ov (xmove rfl) rfl rfl rfl ?_
      refine ov (xmove rfl) rfl rfl rfl ?_
      refine ov (xmove rfl) rfl rfl rfl ?_
      have h28 := (K.ext E).at (i := k) (by omega)
      refine ov (xindexN (i := k) Try.underlying85 Try.sizeOf49 rfl rfl rfl ((K.ext E).p (i := k) (by omega)) (by have := (K.ext E).len; omega)) rfl rfl rfl ?_
      refine ov (v := .agg #[.string xs[k].Code, .string xs[k].Found, .int .i64 xs[k].Day, .int .i64 xs[k].Seal, .slice (he_ k).p (he_ k).n (he_ k).c]) (xloadN Try.isAgg49 Try.sizeOf49 rfl (h28) rfl) rfl rfl rfl ?_
      refine ov (xmove rfl) rfl rfl rfl ?_
      have hxk := areExhibits_is hz_.2.1 (by omega : k < xs.length)
      have hsk := hx _ (List.getElem_mem (by omega : k < xs.length))
      refine oc (xcall Try.call130 rfl) rfl rfl rfl (l25Why_ok _ _ _ _ _ _ (day) _ (H.ext E) ((show Sl Handing.cells 4 _ _ _ _ xs[k].Chain from (K.inner (i := k) (by omega)).ext E)) (by assumption) (by assumption)) ?_
      rintro _ w3 ⟨rfl, e3⟩
      have z3 := e3.size
      have E := E.trans e3
      replace G_9 := G_9.ext e3
      refine ov (xeql rfl rfl _ rfl) rfl rfl rfl ?_
      refine ods (fun c32 => ?_) (fun c32 => ?_)
      ·
        refine ops_nil ?_
        refine run_cond_t rfl ?_
        refine run_region ?_
        refine ov (xmove rfl) rfl rfl rfl ?_
        refine ov (xmove rfl) rfl rfl rfl ?_
        refine ov (xmove rfl) rfl rfl rfl ?_
        have h36 := (K.ext E).at (i := k) (by omega)
        refine ov (xindexN (i := k) Try.underlying85 Try.sizeOf49 rfl rfl rfl ((K.ext E).p (i := k) (by omega)) (by have := (K.ext E).len; omega)) rfl rfl rfl ?_
        refine ov (xfieldAddr fo49f0 rfl) rfl rfl rfl ?_
        refine ov (v := .string xs[k].Code) (xload1 Try.isAgg9 rfl (h36) rfl) rfl rfl rfl ?_
        refine obuild (cs := [.string xs[k].Code]) (sz := 1) Try.underlying66 inf9 rfl rfl (by decide) rfl rfl (by simp [Value.cells]) rfl rfl rfl ?_
        intro b4 w4 e4 hb4 hz4 O4
        have E := E.trans e4
        replace G_9 := G_9.ext e4
        refine oapp (bytes := 16) (nm := (m_9 + 1)) G_9 rfl rfl elem9 (Own.sl1 (y := xs[k].Code) O4) (by intro h; cases h) (by intro y hy; rfl) (by intro y hy u hu; rw [List.mem_singleton] at hy; subst hy; revert u; simp [Value.oneCell', strc]) (by omega) (by omega) (by omega) (by omega) rfl rfl ?_
        intro p5 c5_ w5 m5 G5
        have hz5 := m5.size
        have E := m5.toExt E (by omega)
        try replace O4 := m5.own O4 (by omega)
        refine ov (xassign rfl) rfl rfl rfl ?_
        refine ops_nil ?_
        refine run_inBlock ?_
        refine run_region ?_
        refine ov (xmove rfl) rfl rfl rfl ?_
        refine ov (xadd rfl rfl (by unfold I64; omega)) rfl rfl rfl ?_
        refine ov (xassign rfl) rfl rfl rfl ?_
        refine ops_nil ?_
        refine run_sub ?_ (hback6 (k + 1, p5, (m_9 + 1), c5_, ys_9 ++ [xs[k].Code], w5) (⟨E, G5.wide (by omega) (by omega), by omega, by omega, by omega, (xfilt_step (xs := xs) (k := k) (by omega) hy).1 (decide_eq_true c32)⟩) (by first | omega | (dsimp only; omega)))
        exact ⟨rfl, rfl, rfl, rfl, rfl, trivial⟩
      ·
        refine ops_nil ?_
        refine run_cond_f rfl ?_
        refine run_skip ?_
        refine run_inBlock ?_
        refine run_region ?_
        refine ov (xmove rfl) rfl rfl rfl ?_
        refine ov (xadd rfl rfl (by unfold I64; omega)) rfl rfl rfl ?_
        refine ov (xassign rfl) rfl rfl rfl ?_
        refine ops_nil ?_
        refine run_sub ?_ (hback6 (k + 1, q_9, m_9, c_9, ys_9, w3) (⟨E, G_9.wide (by omega) (by omega), by omega, by omega, by omega, (xfilt_step (xs := xs) (k := k) (by omega) hy).2 (decide_eq_false c32)⟩) (by first | omega | (dsimp only; omega)))
        exact ⟨rfl, rfl, rfl, rfl, rfl, trivial⟩
    ·
      refine ops_nil ?_
      refine run_cond_f rfl ?_
      refine run_exit rfl ?_
      refine run_seq ?_
      refine run_region ?_
      refine ov (xmove rfl) rfl rfl rfl ?_
      refine ov (xassign rfl) rfl rfl rfl ?_
      refine ov (xassign rfl) rfl rfl rfl ?_
      refine ops_nil ?_
      refine run_ret Try.func79 (res2 rfl rfl rfl) ?_
      have he : seenOn rs xs day = (ys_9, 0) := by unfold seenOn; (repeat' split) <;> first | rfl | (exfalso; omega) | (rw [hy, List.take_of_length_le (by omega)])
      exact ⟨_, rfl, E, _, _, _, by rw [he], by rw [he]; exact G_9.wide (by omega) (by omega)⟩

set_option maxHeartbeats 1000000 in
theorem CountStandings_ok (p : Option Addr) (n c : Nat) (rs : List Ruling) (q : Option Addr) (m d : Nat) (xs : List Exhibit) (day : Int) (w : World) (H : Sl Ruling.cells 3 w p n c rs) (K0 : SnExhibitS w q m d xs) (hr : ∀ r ∈ rs, r.Code.size ≤ 9223372036854775807) (hx : ∀ x ∈ xs, exSmall x) : Ret Try.prog 72 [.slice p n c, .slice q m d, .int .i64 day] w (fun v w' => Ext w w' ∧ ∃ q m d, v = .tuple #[.slice q m d, .int .i64 (countSt rs xs day).2] ∧ Ow i64c 1 2 w' w.heap.size w'.heap.size q m d (countSt rs xs day).1) := by
  refine ret_of_run (N := 38) Try.func72 rfl rfl rfl ?_
  obtain ⟨he_, K⟩ := K0
  have hm := K.len
  have hm6 := K.n64
  have hn := H.len
  have E : Ext w w := Ext.refl w
  refine run_seq ?_
  refine run_region ?_
  refine ov (xassign rfl) rfl rfl rfl ?_
  refine ov (xassign rfl) rfl rfl rfl ?_
  refine ops_nil ?_
  refine run_seq ?_
  refine run_seq ?_
  refine run_region ?_
  refine ov (xmove rfl) rfl rfl rfl ?_
  refine ov (xmove rfl) rfl rfl rfl ?_
  refine ov (xmove rfl) rfl rfl rfl ?_
  refine oc (xcall Try.call128 rfl) rfl rfl rfl (rulingCode_ok _ _ _ _ _ _ _ _ (day) _ (H.ext E) (K.ext E).sn (by assumption) (by assumption)) ?_
  rintro _ w1 ⟨rfl, e1⟩
  have z1 := e1.size
  have E := E.trans e1
  refine ov (xassign rfl) rfl rfl rfl ?_
  refine ops_nil ?_
  refine run_seq ?_
  refine run_region ?_
  refine ov (xmove rfl) rfl rfl rfl ?_
  refine ov (xneq rfl rfl _ rfl) rfl rfl rfl ?_
  refine ods (fun c17 => ?_) (fun c17 => ?_)
  ·
    refine ops_nil ?_
    refine run_cond_t rfl ?_
    refine run_seq ?_
    refine run_region ?_
    refine ov (xmove rfl) rfl rfl rfl ?_
    refine ov (xassign rfl) rfl rfl rfl ?_
    refine ov (xassign rfl) rfl rfl rfl ?_
    refine ops_nil ?_
    refine run_ret Try.func72 (res2 rfl rfl rfl) ?_
    have he : countSt rs xs day = ([], (rulCode rs xs day)) := by unfold countSt; (repeat' split) <;> first | rfl | (exfalso; omega) | (rw [hy, List.take_of_length_le (by omega)])
    exact ⟨_, rfl, E, none, 0, 0, by rw [he], by rw [he]; exact Ow.none _ _ _ _ _ _⟩
  ·
    have hz_ := rulCode_zero (by omega : rulCode rs xs day = 0)
    have hl10_ := areExhibits_len hz_.2.1
    refine ops_nil ?_
    refine run_cond_f rfl ?_
    refine run_skip ?_
    refine run_seq ?_
    refine run_region ?_
    refine omake (n := 4) Try.underlying55 inf2 rfl rfl (by decide) rfl rfl rfl rfl (by simp only [Try.t2]; omega) (by omega) rfl rfl ?_
    intro b2 w2 e2 hb2 hz2 O2
    have E := E.trans e2
    replace O2 : Own w2 b2 (List.replicate (4) ([.int .i64 0] : List Value)).flatten 2 := O2
    have G2 : Ow i64c 1 2 w2 b2 (b2 + 1) (some ⟨b2, 0, none⟩) 4 4 (List.replicate (4) (0 : Int)) := Own.ow (by simpa [i64c] using O2) (by simp) (by omega) (Nat.le_refl _) (by omega) (by intro x hx; rfl)
    refine ov (xassign rfl) rfl rfl rfl ?_
    refine ops_nil ?_
    refine run_seq ?_
    refine run_seq ?_
    refine run_region ?_
    refine ov (xmove rfl) rfl rfl rfl ?_
    refine ov (xlen Try.underlying85 rfl) rfl rfl rfl ?_
    refine ov (xmove rfl) rfl rfl rfl ?_
    refine ops_nil ?_
    refine run_block ?_
    refine run_loop (ι := Nat × Option Addr × Nat × Nat × List Int × World) (fun x_ => match x_ with | (k, q_9, m_9, c_9, ys_9, wr) => (Ext w wr) ∧ (Ow i64c 1 2 wr b2 wr.heap.size q_9 m_9 c_9 ys_9) ∧ (b2 ≤ wr.heap.size) ∧ (w2.heap.size ≤ wr.heap.size) ∧ (k ≤ m) ∧ (m_9 = 4) ∧ (ys_9 = cntS rs day (xs.take k))) (fun x_ => match x_ with | (k, q_9, m_9, c_9, ys_9, wr) => [(0, .slice p n c), (2, .int .i64 day), (9, .slice q_9 m_9 c_9), (20, .slice q m d), (21, .int .i64 (m : Int)), (22, .int .i64 (k : Int))]) (fun x_ => match x_ with | (k, q_9, m_9, c_9, ys_9, wr) => wr) (fun x_ => match x_ with | (k, q_9, m_9, c_9, ys_9, wr) => m - k) ?_ (0, (some ⟨b2, 0, none⟩), 4, 4, (List.replicate 4 (0 : Int)), w2) (⟨E, G2.wide (by omega) (by omega), by omega, Nat.le_refl _, by omega, rfl, by simp [cntS]⟩) ⟨rfl, rfl, rfl, rfl, rfl, rfl, trivial⟩ rfl
    intro i_ hI_ hback6
    obtain ⟨k, q_9, m_9, c_9, ys_9, wr⟩ := i_
    obtain ⟨E, G_9, lo_9, lz_wr, hk, hm4, hy⟩ := hI_
    try dsimp only
    have zr := E.size
    have lg_9 := G_9.len
    have hsm : ys_9.length = 4 ∧ ∀ v ∈ ys_9, 0 ≤ v ∧ v ≤ k := by rw [hy]; exact cntS_small rs day xs k (by omega)
    refine run_seq ?_
    refine run_region ?_
    refine ov (xlss rfl rfl _ rfl) rfl rfl rfl ?_
    refine ods (fun c23 => ?_) (fun c23 => ?_)
    ·
      refine ops_nil ?_
      refine run_seq ?_
      refine run_cond_t rfl ?_
      refine run_skip ?_
      refine run_seq ?_
      refine run_block ?_
      refine run_seq ?_
      refine run_region ?_
      have h24 := (K.ext E).at (i := k) (by omega)
      refine ov (xindexN (i := k) Try.underlying85 Try.sizeOf49 rfl rfl rfl ((K.ext E).p (i := k) (by omega)) (by have := (K.ext E).len; omega)) rfl rfl rfl ?_
      refine ov (v := .agg #[.string xs[k].Code, .string xs[k].Found, .int .i64 xs[k].Day, .int .i64 xs[k].Seal, .slice (he_ k).p (he_ k).n (he_ k).c]) (xloadN Try.isAgg49 Try.sizeOf49 rfl (h24) rfl) rfl rfl rfl ?_
      refine oalloc Try.zeroValue49 rfl rfl ?_
      intro b3 w3 e3 hb3 hz3 O3
      have E := E.trans e3
      replace G_9 := G_9.ext e3
      replace O3 : Own w3 b3 [.string ⟨#[]⟩, .string ⟨#[]⟩, .int .i64 0, .int .i64 0, .slice none 0 0] 49 := O3
      refine ostoreN (vs := _) Try.sizeOf49 rfl rfl O3 rfl (by simp) (by simp [Value.oneCell']) rfl ?_
      intro w4 on4 O4
      have hz4 := on4.size
      have E := on4.ext E (by omega)
      replace G_9 := G_9.only on4 (by omega)
      replace O4 : Own w4 b3 [.string xs[k].Code, .string xs[k].Found, .int .i64 xs[k].Day, .int .i64 xs[k].Seal, .slice (he_ k).p (he_ k).n (he_ k).c] 49 := O4
      refine ops_nil ?_
      refine run_region ?_
      refine ov (xmove rfl) rfl rfl rfl ?_
      refine ov (xmove rfl) rfl rfl rfl ?_
      refine ov (xfieldAddr fo49f0 rfl) rfl rfl rfl ?_
      refine ov (v := .string xs[k].Code) (xload1 Try.isAgg9 rfl (O4.cells) rfl) rfl rfl rfl ?_
      refine ov (xmove rfl) rfl rfl rfl ?_
      refine oc (xcall Try.call97 rfl) rfl rfl rfl (standing_ok _ _ _ _ _ _ _ (H.ext E)) ?_
      rintro _ w5 ⟨rfl, e5⟩
      have z5 := e5.size
      have E := E.trans e5
      replace G_9 := G_9.ext e5
      replace O4 := O4.ext e5
      have hsr := standing_range hz_.1 xs[k].Code day
      have hv_ := hsm.2 _ (List.getElem_mem (by omega : (standing rs xs[k].Code day).toNat < ys_9.length))
      have h32 := (G_9.sl).at (i := (standing rs xs[k].Code day).toNat) (by omega)
      refine ov (xindexN (i := (standing rs xs[k].Code day).toNat) Try.underlying55 Try.sizeOf2 rfl rfl (by omega) ((G_9.sl).p (i := (standing rs xs[k].Code day).toNat) (by omega)) (by have := (G_9.sl).len; omega)) rfl rfl rfl ?_
      refine ov (v := .int .i64 ys_9[(standing rs xs[k].Code day).toNat]) (xloadz Try.isAgg2 rfl (h32) rfl) rfl rfl rfl ?_
      refine ov (xadd rfl rfl (by unfold I64; omega)) rfl rfl rfl ?_
      have h35 := (G_9.sl).at (i := (standing rs xs[k].Code day).toNat) (by omega)
      refine ov (xindexN (i := (standing rs xs[k].Code day).toNat) Try.underlying55 Try.sizeOf2 rfl rfl (by omega) ((G_9.sl).p (i := (standing rs xs[k].Code day).toNat) (by omega)) (by have := (G_9.sl).len; omega)) rfl rfl rfl ?_
      refine ostoreOw1 (i := (standing rs xs[k].Code day).toNat) (y := ((ys_9[(standing rs xs[k].Code day).toNat] + 1))) Try.sizeOf2 G_9 (by omega) rfl rfl rfl rfl rfl ?_
      intro w6 m6 g6
      have z6 := m6.size
      have E := m6.toExt E (by omega)
      try replace O4 := m6.own O4 (by omega)
      replace G_9 := g6
      refine ops_nil ?_
      refine run_inBlock ?_
      refine run_region ?_
      refine ov (xadd rfl rfl (by unfold I64; omega)) rfl rfl rfl ?_
      refine ov (xmove rfl) rfl rfl rfl ?_
      refine ops_nil ?_
      refine run_sub ?_ (hback6 (k + 1, q_9, m_9, c_9, (ys_9.set ((standing rs xs[k].Code day).toNat) ((ys_9[(standing rs xs[k].Code day).toNat] + 1))), w6) (⟨E, G_9.wide (by omega) (by omega), by omega, by omega, by omega, by omega, cnt_step (by omega) hy (by omega) rfl⟩) (by first | omega | (dsimp only; omega)))
      exact ⟨rfl, rfl, rfl, rfl, rfl, rfl, trivial⟩
    ·
      refine ops_nil ?_
      refine run_seq ?_
      refine run_cond_f rfl ?_
      refine run_exit rfl ?_
      refine run_seq ?_
      refine run_region ?_
      refine ov (xmove rfl) rfl rfl rfl ?_
      refine ov (xassign rfl) rfl rfl rfl ?_
      refine ov (xassign rfl) rfl rfl rfl ?_
      refine ops_nil ?_
      refine run_ret Try.func72 (res2 rfl rfl rfl) ?_
      have he : countSt rs xs day = (ys_9, 0) := by unfold countSt; (repeat' split) <;> first | rfl | (exfalso; omega) | (rw [hy, List.take_of_length_le (by omega)])
      exact ⟨_, rfl, E, _, _, _, by rw [he], by rw [he]; exact G_9.wide (by omega) (by omega)⟩

set_option maxHeartbeats 1000000 in
theorem sCountStandings_ok (p : Option Addr) (n c : Nat) (rs : List Ruling) (q : Option Addr) (m d : Nat) (xs : List Exhibit) (day : Int) (w : World) (H : Sl Ruling.cells 3 w p n c rs) (K0 : SnExhibitS w q m d xs) (hr : ∀ r ∈ rs, r.Code.size ≤ 9223372036854775807) (hx : ∀ x ∈ xs, exSmall x) : Ret Try.prog 70 [.slice p n c, .slice q m d, .int .i64 day] w (fun v w' => Ext w w' ∧ ∃ q m d, v = .tuple #[.slice q m d, .int .i64 (countSt rs xs day).2] ∧ Ow i64c 1 2 w' w.heap.size w'.heap.size q m d (countSt rs xs day).1) := by
  refine ret_of_run (N := 39) Try.func70 rfl rfl rfl ?_
  obtain ⟨he_, K⟩ := K0
  have hm := K.len
  have hm6 := K.n64
  have hn := H.len
  have E : Ext w w := Ext.refl w
  refine run_seq ?_
  refine run_region ?_
  refine ov (xassign rfl) rfl rfl rfl ?_
  refine ov (xassign rfl) rfl rfl rfl ?_
  refine ops_nil ?_
  refine run_seq ?_
  refine run_region ?_
  refine ov (xmove rfl) rfl rfl rfl ?_
  refine ov (xmove rfl) rfl rfl rfl ?_
  refine ov (xmove rfl) rfl rfl rfl ?_
  refine oc (xcall Try.call127 rfl) rfl rfl rfl (l25Code_ok _ _ _ _ _ _ _ _ (day) _ (H.ext E) (K.ext E).sn (by assumption) (by assumption)) ?_
  rintro _ w1 ⟨rfl, e1⟩
  have z1 := e1.size
  have E := E.trans e1
  refine ov (xassign rfl) rfl rfl rfl ?_
  refine ops_nil ?_
  refine run_seq ?_
  refine run_seq ?_
  refine run_region ?_
  refine ov (xmove rfl) rfl rfl rfl ?_
  refine ov (xneq rfl rfl _ rfl) rfl rfl rfl ?_
  refine ods (fun c16 => ?_) (fun c16 => ?_)
  ·
    refine ops_nil ?_
    refine run_cond_t rfl ?_
    refine run_seq ?_
    refine run_region ?_
    refine ov (xmove rfl) rfl rfl rfl ?_
    refine ov (xassign rfl) rfl rfl rfl ?_
    refine ov (xassign rfl) rfl rfl rfl ?_
    refine ops_nil ?_
    refine run_ret Try.func70 (res2 rfl rfl rfl) ?_
    have he : countSt rs xs day = ([], (rulCode rs xs day)) := by unfold countSt; (repeat' split) <;> first | rfl | (exfalso; omega) | (rw [hy, List.take_of_length_le (by omega)])
    exact ⟨_, rfl, E, none, 0, 0, by rw [he], by rw [he]; exact Ow.none _ _ _ _ _ _⟩
  ·
    have hz_ := rulCode_zero (by omega : rulCode rs xs day = 0)
    have hl10_ := areExhibits_len hz_.2.1
    refine ops_nil ?_
    refine run_cond_f rfl ?_
    refine run_skip ?_
    refine run_seq ?_
    refine run_region ?_
    refine omake (n := 4) Try.underlying55 inf2 rfl rfl (by decide) rfl rfl rfl rfl (by simp only [Try.t2]; omega) (by omega) rfl rfl ?_
    intro b2 w2 e2 hb2 hz2 O2
    have E := E.trans e2
    replace O2 : Own w2 b2 (List.replicate (4) ([.int .i64 0] : List Value)).flatten 2 := O2
    have G2 : Ow i64c 1 2 w2 b2 (b2 + 1) (some ⟨b2, 0, none⟩) 4 4 (List.replicate (4) (0 : Int)) := Own.ow (by simpa [i64c] using O2) (by simp) (by omega) (Nat.le_refl _) (by omega) (by intro x hx; rfl)
    refine ov (xassign rfl) rfl rfl rfl ?_
    refine ops_nil ?_
    refine run_seq ?_
    refine run_seq ?_
    refine run_region ?_
    refine ov (xassign rfl) rfl rfl rfl ?_
    refine ops_nil ?_
    refine run_block ?_
    refine run_loop (ι := Nat × Option Addr × Nat × Nat × List Int × World) (fun x_ => match x_ with | (k, q_9, m_9, c_9, ys_9, wr) => (Ext w wr) ∧ (Ow i64c 1 2 wr b2 wr.heap.size q_9 m_9 c_9 ys_9) ∧ (b2 ≤ wr.heap.size) ∧ (w2.heap.size ≤ wr.heap.size) ∧ (k ≤ m) ∧ (m_9 = 4) ∧ (ys_9 = cntS rs day (xs.take k))) (fun x_ => match x_ with | (k, q_9, m_9, c_9, ys_9, wr) => [(0, .slice p n c), (1, .slice q m d), (2, .int .i64 day), (9, .slice q_9 m_9 c_9), (10, .int .i64 (k : Int))]) (fun x_ => match x_ with | (k, q_9, m_9, c_9, ys_9, wr) => wr) (fun x_ => match x_ with | (k, q_9, m_9, c_9, ys_9, wr) => m - k) ?_ (0, (some ⟨b2, 0, none⟩), 4, 4, (List.replicate 4 (0 : Int)), w2) (⟨E, G2.wide (by omega) (by omega), by omega, Nat.le_refl _, by omega, rfl, by simp [cntS]⟩) ⟨rfl, rfl, rfl, rfl, rfl, trivial⟩ rfl
    intro i_ hI_ hback6
    obtain ⟨k, q_9, m_9, c_9, ys_9, wr⟩ := i_
    obtain ⟨E, G_9, lo_9, lz_wr, hk, hm4, hy⟩ := hI_
    try dsimp only
    have zr := E.size
    have lg_9 := G_9.len
    have hsm : ys_9.length = 4 ∧ ∀ v ∈ ys_9, 0 ≤ v ∧ v ≤ k := by rw [hy]; exact cntS_small rs day xs k (by omega)
    refine run_seq ?_
    refine run_seq ?_
    refine run_region ?_
    refine ov (xmove rfl) rfl rfl rfl ?_
    refine ov (xmove rfl) rfl rfl rfl ?_
    refine ov (xlen Try.underlying85 rfl) rfl rfl rfl ?_
    refine ov (xlss rfl rfl _ rfl) rfl rfl rfl ?_
    refine ods (fun c22 => ?_) (fun c22 => ?_)
    ·
      refine ops_nil ?_
      refine run_cond_t rfl ?_
      refine run_skip ?_
      refine run_seq ?_
      refine run_block ?_
      refine run_region ?_
      refine ov (xmove rfl) rfl rfl rfl ?_
      refine ov (xmove rfl) rfl rfl rfl ?_
      refine ov (xmove rfl) rfl rfl rfl ?_
      refine ov (xmove rfl) rfl rfl rfl ?_
      have h29 := (K.ext E).at (i := k) (by omega)
      refine ov (xindexN (i := k) Try.underlying85 Try.sizeOf49 rfl rfl rfl ((K.ext E).p (i := k) (by omega)) (by have := (K.ext E).len; omega)) rfl rfl rfl ?_
      refine ov (xfieldAddr fo49f0 rfl) rfl rfl rfl ?_
      refine ov (v := .string xs[k].Code) (xload1 Try.isAgg9 rfl (h29) rfl) rfl rfl rfl ?_
      refine ov (xmove rfl) rfl rfl rfl ?_
      refine oc (xcall Try.call94 rfl) rfl rfl rfl (sStanding_ok _ _ _ _ _ _ _ (H.ext E)) ?_
      rintro _ w3 ⟨rfl, e3⟩
      have z3 := e3.size
      have E := E.trans e3
      replace G_9 := G_9.ext e3
      have hsr := standing_range hz_.1 xs[k].Code day
      have hv_ := hsm.2 _ (List.getElem_mem (by omega : (standing rs xs[k].Code day).toNat < ys_9.length))
      have h34 := (G_9.sl).at (i := (standing rs xs[k].Code day).toNat) (by omega)
      refine ov (xindexN (i := (standing rs xs[k].Code day).toNat) Try.underlying55 Try.sizeOf2 rfl rfl (by omega) ((G_9.sl).p (i := (standing rs xs[k].Code day).toNat) (by omega)) (by have := (G_9.sl).len; omega)) rfl rfl rfl ?_
      refine ov (v := .int .i64 ys_9[(standing rs xs[k].Code day).toNat]) (xloadz Try.isAgg2 rfl (h34) rfl) rfl rfl rfl ?_
      refine ov (xadd rfl rfl (by unfold I64; omega)) rfl rfl rfl ?_
      have h37 := (G_9.sl).at (i := (standing rs xs[k].Code day).toNat) (by omega)
      refine ov (xindexN (i := (standing rs xs[k].Code day).toNat) Try.underlying55 Try.sizeOf2 rfl rfl (by omega) ((G_9.sl).p (i := (standing rs xs[k].Code day).toNat) (by omega)) (by have := (G_9.sl).len; omega)) rfl rfl rfl ?_
      refine ostoreOw1 (i := (standing rs xs[k].Code day).toNat) (y := ((ys_9[(standing rs xs[k].Code day).toNat] + 1))) Try.sizeOf2 G_9 (by omega) rfl rfl rfl rfl rfl ?_
      intro w4 m4 g4
      have z4 := m4.size
      have E := m4.toExt E (by omega)
      replace G_9 := g4
      refine ops_nil ?_
      refine run_inBlock ?_
      refine run_region ?_
      refine ov (xmove rfl) rfl rfl rfl ?_
      refine ov (xadd rfl rfl (by unfold I64; omega)) rfl rfl rfl ?_
      refine ov (xassign rfl) rfl rfl rfl ?_
      refine ops_nil ?_
      refine run_sub ?_ (hback6 (k + 1, q_9, m_9, c_9, (ys_9.set ((standing rs xs[k].Code day).toNat) ((ys_9[(standing rs xs[k].Code day).toNat] + 1))), w4) (⟨E, G_9.wide (by omega) (by omega), by omega, by omega, by omega, by omega, cnt_step (by omega) hy (by omega) rfl⟩) (by first | omega | (dsimp only; omega)))
      exact ⟨rfl, rfl, rfl, rfl, rfl, trivial⟩
    ·
      refine ops_nil ?_
      refine run_cond_f rfl ?_
      refine run_exit rfl ?_
      refine run_seq ?_
      refine run_region ?_
      refine ov (xmove rfl) rfl rfl rfl ?_
      refine ov (xassign rfl) rfl rfl rfl ?_
      refine ov (xassign rfl) rfl rfl rfl ?_
      refine ops_nil ?_
      refine run_ret Try.func70 (res2 rfl rfl rfl) ?_
      have he : countSt rs xs day = (ys_9, 0) := by unfold countSt; (repeat' split) <;> first | rfl | (exfalso; omega) | (rw [hy, List.take_of_length_le (by omega)])
      exact ⟨_, rfl, E, _, _, _, by rw [he], by rw [he]; exact G_9.wide (by omega) (by omega)⟩
end Go.Proofs.Ytnjohcbamblilaa
