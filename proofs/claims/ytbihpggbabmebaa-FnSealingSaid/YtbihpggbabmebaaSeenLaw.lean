/-
  The law on who sees what: the walk. No condition beyond those written in each theorem.
-/
import Derived.Test.YtbihpggbabmebaaRoleDraw
import Derived.Test.YtbihpggbabmebaaSeenP
namespace Go.Proofs.Ytbihpggbabmebaa
open Go.RowKit
set_option linter.unusedVariables false
set_option linter.unusedSimpArgs false
set_option linter.unusedSectionVars false
set_option maxRecDepth 4000

set_option maxHeartbeats 400000 in
theorem hasText_ok (p : Option Addr) (n c : Nat) (xs : List ByteArray) (x : ByteArray) (w : World) (H : Sl strc 1 w p n c xs) : Ret Try.prog 40 [.slice p n c, .string x] w (Pv w (.bool (hasS xs x))) := by
  refine ret_of_run (N := 18) Try.func40 rfl rfl rfl ?_
  have hn := H.len
  have hn6 := H.n64
  have E : Ext w w := Ext.refl w
  refine run_seq ?_
  refine run_region ?_
  refine ov (xassign rfl) rfl rfl rfl ?_
  refine ops_nil ?_
  refine run_seq ?_
  refine run_seq ?_
  refine run_region ?_
  refine ov (xassign rfl) rfl rfl rfl ?_
  refine ops_nil ?_
  refine run_block ?_
  refine run_loop (ι := Nat × World) (fun x_ => match x_ with | (k, wr) => (Ext w wr) ∧ (w.heap.size ≤ wr.heap.size) ∧ (k ≤ n) ∧ (∀ j (hj : j < xs.length), j < k → xs[j] ≠ x)) (fun x_ => match x_ with | (k, wr) => [(0, .slice p n c), (1, .string x), (5, .int .i64 (k : Int))]) (fun x_ => match x_ with | (k, wr) => wr) (fun x_ => match x_ with | (k, wr) => n - k) ?_ (0, w) (⟨E, Nat.le_refl _, by omega, fun j hj h => absurd h (Nat.not_lt_zero j)⟩) ⟨rfl, rfl, rfl, trivial⟩ rfl
  intro i_ hI_ hback2
  obtain ⟨k, wr⟩ := i_
  obtain ⟨E, lz_wr, hk, ha⟩ := hI_
  try dsimp only
  have zr := E.size
  refine run_seq ?_
  refine run_seq ?_
  refine run_region ?_
  refine ov (xmove rfl) rfl rfl rfl ?_
  refine ov (xmove rfl) rfl rfl rfl ?_
  refine ov (xlen Try.underlying49 rfl) rfl rfl rfl ?_
  refine ov (xlss rfl rfl _ rfl) rfl rfl rfl ?_
  refine ods (fun c9 => ?_) (fun c9 => ?_)
  ·
    refine ops_nil ?_
    refine run_cond_t rfl ?_
    refine run_skip ?_
    refine run_seq ?_
    refine run_block ?_
    refine run_seq ?_
    refine run_region ?_
    refine ov (xmove rfl) rfl rfl rfl ?_
    refine ov (xmove rfl) rfl rfl rfl ?_
    have h14 := (H.ext E).at (i := k) (by omega)
    refine ov (xindexN (i := k) Try.underlying49 Try.sizeOf9 rfl rfl rfl ((H.ext E).p (i := k) (by omega)) (by have := (H.ext E).len; omega)) rfl rfl rfl ?_
    refine ov (v := .string xs[k]) (xloadz Try.isAgg9 rfl (h14) rfl) rfl rfl rfl ?_
    refine ov (xmove rfl) rfl rfl rfl ?_
    refine ov (xseql rfl rfl _ rfl) rfl rfl rfl ?_
    refine ods (fun c17 => ?_) (fun c17 => ?_)
    ·
      refine ops_nil ?_
      refine run_cond_t rfl ?_
      refine run_seq ?_
      refine run_region ?_
      refine ov (xassign rfl) rfl rfl rfl ?_
      refine ops_nil ?_
      refine run_ret Try.func40 (res1 rfl rfl) ?_
      exact ⟨_, rfl, by rw [hasS_t (k := k) (by omega) c17], E⟩
    ·
      refine ops_nil ?_
      refine run_cond_f rfl ?_
      refine run_skip ?_
      refine run_inBlock ?_
      refine run_region ?_
      refine ov (xmove rfl) rfl rfl rfl ?_
      refine ov (xadd rfl rfl (by unfold I64; omega)) rfl rfl rfl ?_
      refine ov (xassign rfl) rfl rfl rfl ?_
      refine ops_nil ?_
      refine run_sub ?_ (hback2 (k + 1, wr) (⟨E, by omega, by omega, below_succ (q := fun y => y ≠ x) ha (fun _ => c17)⟩) (by first | omega | (dsimp only; omega)))
      exact ⟨rfl, rfl, rfl, trivial⟩
  ·
    refine ops_nil ?_
    refine run_cond_f rfl ?_
    refine run_exit rfl ?_
    refine run_seq ?_
    refine run_region ?_
    refine ov (xassign rfl) rfl rfl rfl ?_
    refine ops_nil ?_
    refine run_ret Try.func40 (res1 rfl rfl) ?_
    exact ⟨_, rfl, by rw [hasS_f ha (by omega)], E⟩

set_option maxHeartbeats 400000 in
theorem likeTexts_ok (p q : Option Addr) (n c m d : Nat) (xs : List ByteArray) (w : World) (H : Sl strc 1 w p n c xs) (K : Sl strc 1 w q m d xs) : Ret Try.prog 39 [.slice p n c, .slice q m d] w (Pv w (.bool true)) := by
  refine ret_of_run (N := 26) Try.func39 rfl rfl rfl ?_
  have hn := H.len
  have hm := K.len
  have hn6 := H.n64
  have E : Ext w w := Ext.refl w
  refine run_seq ?_
  refine run_region ?_
  refine ov (xassign rfl) rfl rfl rfl ?_
  refine ops_nil ?_
  refine run_seq ?_
  refine run_seq ?_
  refine run_region ?_
  refine ov (xmove rfl) rfl rfl rfl ?_
  refine ov (xlen Try.underlying49 rfl) rfl rfl rfl ?_
  refine ov (xmove rfl) rfl rfl rfl ?_
  refine ov (xlen Try.underlying49 rfl) rfl rfl rfl ?_
  refine ov (xneq rfl rfl _ rfl) rfl rfl rfl ?_
  refine ods (fun c10 => ?_) (fun c10 => ?_)
  · exfalso; omega
  ·
    refine ops_nil ?_
    refine run_cond_f rfl ?_
    refine run_skip ?_
    refine run_seq ?_
    refine run_seq ?_
    refine run_region ?_
    refine ov (xassign rfl) rfl rfl rfl ?_
    refine ops_nil ?_
    refine run_block ?_
    refine run_loop (ι := Nat × World) (fun x_ => match x_ with | (k, wr) => (Ext w wr) ∧ (w.heap.size ≤ wr.heap.size) ∧ (k ≤ n)) (fun x_ => match x_ with | (k, wr) => [(0, .slice p n c), (1, .slice q m d), (5, .int .i64 (k : Int))]) (fun x_ => match x_ with | (k, wr) => wr) (fun x_ => match x_ with | (k, wr) => n - k) ?_ (0, w) (⟨E, Nat.le_refl _, by omega⟩) ⟨rfl, rfl, rfl, trivial⟩ rfl
    intro i_ hI_ hback4
    obtain ⟨k, wr⟩ := i_
    obtain ⟨E, lz_wr, hk⟩ := hI_
    try dsimp only
    have zr := E.size
    refine run_seq ?_
    refine run_seq ?_
    refine run_region ?_
    refine ov (xmove rfl) rfl rfl rfl ?_
    refine ov (xmove rfl) rfl rfl rfl ?_
    refine ov (xlen Try.underlying49 rfl) rfl rfl rfl ?_
    refine ov (xlss rfl rfl _ rfl) rfl rfl rfl ?_
    refine ods (fun c14 => ?_) (fun c14 => ?_)
    ·
      refine ops_nil ?_
      refine run_cond_t rfl ?_
      refine run_skip ?_
      refine run_seq ?_
      refine run_block ?_
      refine run_seq ?_
      refine run_draw (by kernel_rfl) (by kernel_rfl) ?_
      refine qv (fun w' x_ => xmove rfl) rfl rfl rfl ?_
      refine qv (fun w' x_ => xmove rfl) rfl rfl rfl ?_
      have h19 := (H.ext E).at (i := k) (by omega)
      refine qv (fun w' x_ => xindexN (i := k) Try.underlying49 Try.sizeOf9 rfl rfl rfl ((H.ext E).p (i := k) (by omega)) (by have := (H.ext E).len; omega)) rfl rfl rfl ?_
      refine qv (v := .string xs[k]) (fun w' x_ => xloadz Try.isAgg9 rfl ((h19).ext x_) rfl) rfl rfl rfl ?_
      refine qv (fun w' x_ => xmove rfl) rfl rfl rfl ?_
      refine qv (fun w' x_ => xmove rfl) rfl rfl rfl ?_
      have h23 := (K.ext E).at (i := k) (by omega)
      refine qv (fun w' x_ => xindexN (i := k) Try.underlying49 Try.sizeOf9 rfl rfl rfl ((K.ext E).p (i := k) (by omega)) (by have := (K.ext E).len; omega)) rfl rfl rfl ?_
      refine qv (v := .string xs[k]) (fun w' x_ => xloadz Try.isAgg9 rfl ((h23).ext x_) rfl) rfl rfl rfl ?_
      refine qv (fun w' x_ => xsneq rfl rfl _ rfl) rfl rfl rfl ?_
      refine qds (fun c25 => ?_) (fun c25 => ?_)
      · exfalso; exact c25 rfl
      ·
        refine q_nil ?_
        intro w1 e1
        have z1 := e1.size
        have E := E.trans e1
        refine run_cond_f rfl ?_
        refine run_skip ?_
        refine run_inBlock ?_
        refine run_region ?_
        refine ov (xmove rfl) rfl rfl rfl ?_
        refine ov (xadd rfl rfl (by unfold I64; omega)) rfl rfl rfl ?_
        refine ov (xassign rfl) rfl rfl rfl ?_
        refine ops_nil ?_
        refine run_sub ?_ (hback4 (k + 1, w1) (⟨E, by omega, by omega⟩) (by first | omega | (dsimp only; omega)))
        exact ⟨rfl, rfl, rfl, trivial⟩
    ·
      refine ops_nil ?_
      refine run_cond_f rfl ?_
      refine run_exit rfl ?_
      refine run_seq ?_
      refine run_region ?_
      refine ov (xassign rfl) rfl rfl rfl ?_
      refine ops_nil ?_
      refine run_ret Try.func39 (res1 rfl rfl) ?_
      exact ⟨_, rfl, rfl, E⟩

set_option maxHeartbeats 4000000 in
theorem FnSeen_ok (p : Option Addr) (n c : Nat) (bs : List Int) (w : World) (H : Sl u8c 1 w p n c bs) (hbs : ∀ x ∈ bs, 0 ≤ x ∧ x ≤ 255) : Ret Try.prog 8 [.slice p n c] w (Pv w (.bool true)) := by
  refine ret_of_run (N := 125) Try.func8 rfl rfl rfl ?_
  have hn := H.len
  have E : Ext w w := Ext.refl w
  refine run_seq ?_
  refine run_region ?_
  refine ov (xassign rfl) rfl rfl rfl ?_
  refine ops_nil ?_
  refine run_seq ?_
  refine run_seq ?_
  refine run_region ?_
  refine ov (xmove rfl) rfl rfl rfl ?_
  refine oc (xcall Try.call32 rfl) rfl rfl rfl (big_ok _ _ _ _ _ (H.ext E)) ?_
  rintro _ w1 ⟨rfl, e1⟩
  have z1 := e1.size
  have E := E.trans e1
  refine obs (fun c23 => ?_) (fun c23 => ?_)
  ·
    refine ops_nil ?_
    refine run_cond_t rfl ?_
    refine run_seq ?_
    refine run_region ?_
    refine ov (xassign rfl) rfl rfl rfl ?_
    refine ops_nil ?_
    refine run_ret Try.func8 (res1 rfl rfl) ?_
    exact ⟨_, rfl, rfl, E⟩
  ·
    refine ops_nil ?_
    refine run_cond_f rfl ?_
    refine run_skip ?_
    refine run_seq ?_
    refine run_region ?_
    refine ov (xmove rfl) rfl rfl rfl ?_
    refine oc (xcall Try.call33 rfl) rfl rfl rfl (DrawSeenBy_ok _ _ _ _ _ (H.ext E) (by assumption)) ?_
    rintro _ w2 ⟨e2, rs26, q26, m26, d26, fs26, p26, n26, k26, a26, day26, rfl, okR26, lR26, R26, okF26, lF26, F26, hday26⟩
    have z2 := e2.size
    have E := E.trans e2
    replace R26 : OnRoleS _ _ _ _ _ _ rs26 := R26
    replace F26 : OnFileS _ _ _ _ _ _ fs26 := F26
    obtain ⟨hdR26, HR26⟩ := On.sl R26
    obtain ⟨hdF26, HF26⟩ := On.sl F26
    have nR26 := HR26.len
    have nF26 := HF26.len
    refine ov (xmove rfl) rfl rfl rfl ?_
    refine ov (xextract rfl rfl) rfl rfl rfl ?_
    refine ov (xextract rfl rfl) rfl rfl rfl ?_
    refine ov (xextract rfl rfl) rfl rfl rfl ?_
    refine ov (xextract rfl rfl) rfl rfl rfl ?_
    refine ov (xassign rfl) rfl rfl rfl ?_
    refine ov (xassign rfl) rfl rfl rfl ?_
    refine ov (xassign rfl) rfl rfl rfl ?_
    refine ov (xassign rfl) rfl rfl rfl ?_
    refine ops_nil ?_
    refine run_seq ?_
    refine run_region ?_
    refine ov (xmove rfl) rfl rfl rfl ?_
    refine ov (xmove rfl) rfl rfl rfl ?_
    refine ov (xmove rfl) rfl rfl rfl ?_
    refine ov (xmove rfl) rfl rfl rfl ?_
    refine oc (xcall Try.call34 rfl) rfl rfl rfl (SeenBy_ok _ _ _ rs26 _ _ _ fs26 a26 day26 _ (HR26).sn (HF26).sn okR26 okF26) ?_
    rintro _ w3 ⟨e3, q36_0, m36_0, d36_0, rfl, G36_0⟩
    have z3 := e3.size
    have E := E.trans e3
    replace R26 := R26.ext e3
    replace F26 := F26.ext e3
    replace HR26 := HR26.ext e3
    replace HF26 := HF26.ext e3
    have lG36_0 := G36_0.len
    have hal36 := seenBy_len rs26 fs26 a26 day26
    refine ov (xmove rfl) rfl rfl rfl ?_
    refine ov (xextract rfl rfl) rfl rfl rfl ?_
    refine ov (xextract rfl rfl) rfl rfl rfl ?_
    refine ov (xassign rfl) rfl rfl rfl ?_
    refine ov (xassign rfl) rfl rfl rfl ?_
    refine ops_nil ?_
    refine run_seq ?_
    refine run_region ?_
    refine ov (xmove rfl) rfl rfl rfl ?_
    refine ov (xmove rfl) rfl rfl rfl ?_
    refine ov (xmove rfl) rfl rfl rfl ?_
    refine ov (xmove rfl) rfl rfl rfl ?_
    refine oc (xcall Try.call35 rfl) rfl rfl rfl (sSeenBy_ok _ _ _ rs26 _ _ _ fs26 a26 day26 _ (HR26).sn (HF26).sn okR26 okF26) ?_
    rintro _ w4 ⟨e4, q44_0, m44_0, d44_0, rfl, G44_0⟩
    have z4 := e4.size
    have E := E.trans e4
    replace R26 := R26.ext e4
    replace F26 := F26.ext e4
    replace HR26 := HR26.ext e4
    replace HF26 := HF26.ext e4
    replace G36_0 := G36_0.ext e4
    have lG44_0 := G44_0.len
    have hal44 := seenBy_len rs26 fs26 a26 day26
    refine ov (xmove rfl) rfl rfl rfl ?_
    refine ov (xextract rfl rfl) rfl rfl rfl ?_
    refine ov (xextract rfl rfl) rfl rfl rfl ?_
    refine ov (xassign rfl) rfl rfl rfl ?_
    refine ov (xassign rfl) rfl rfl rfl ?_
    refine ops_nil ?_
    refine run_seq ?_
    refine run_region ?_
    refine ov (xmove rfl) rfl rfl rfl ?_
    refine oc (xcall Try.call36 rfl) rfl rfl rfl (DrawWhoSees_ok _ _ _ _ _ (H.ext E) (by assumption)) ?_
    rintro _ w5 ⟨e5, rs49, q49, m49, d49, fs49, p49, n49, k49, b49, day49, rfl, okR49, lR49, R49, okF49, lF49, F49, hday49⟩
    have z5 := e5.size
    have E := E.trans e5
    replace R26 := R26.ext e5
    replace F26 := F26.ext e5
    replace HR26 := HR26.ext e5
    replace HF26 := HF26.ext e5
    replace G36_0 := G36_0.ext e5
    replace G44_0 := G44_0.ext e5
    replace R49 : OnRoleS _ _ _ _ _ _ rs49 := R49
    replace F49 : OnFileS _ _ _ _ _ _ fs49 := F49
    obtain ⟨hdR49, HR49⟩ := On.sl R49
    obtain ⟨hdF49, HF49⟩ := On.sl F49
    have nR49 := HR49.len
    have nF49 := HF49.len
    refine ov (xmove rfl) rfl rfl rfl ?_
    refine ov (xextract rfl rfl) rfl rfl rfl ?_
    refine ov (xextract rfl rfl) rfl rfl rfl ?_
    refine ov (xextract rfl rfl) rfl rfl rfl ?_
    refine ov (xextract rfl rfl) rfl rfl rfl ?_
    refine ov (xassign rfl) rfl rfl rfl ?_
    refine ov (xassign rfl) rfl rfl rfl ?_
    refine ov (xassign rfl) rfl rfl rfl ?_
    refine ov (xassign rfl) rfl rfl rfl ?_
    refine ops_nil ?_
    refine run_seq ?_
    refine run_region ?_
    refine ov (xmove rfl) rfl rfl rfl ?_
    refine ov (xmove rfl) rfl rfl rfl ?_
    refine ov (xmove rfl) rfl rfl rfl ?_
    refine ov (xmove rfl) rfl rfl rfl ?_
    refine oc (xcall Try.call37 rfl) rfl rfl rfl (WhoSees_ok _ _ _ rs49 _ _ _ fs49 b49 day49 _ (HR49).sn (HF49).sn okR49 okF49) ?_
    rintro _ w6 ⟨e6, q59_0, m59_0, d59_0, rfl, G59_0⟩
    have z6 := e6.size
    have E := E.trans e6
    replace R26 := R26.ext e6
    replace F26 := F26.ext e6
    replace HR26 := HR26.ext e6
    replace HF26 := HF26.ext e6
    replace G36_0 := G36_0.ext e6
    replace G44_0 := G44_0.ext e6
    replace R49 := R49.ext e6
    replace F49 := F49.ext e6
    replace HR49 := HR49.ext e6
    replace HF49 := HF49.ext e6
    have lG59_0 := G59_0.len
    have hal59 := whoSees_len rs49 fs49 b49 day49
    refine ov (xmove rfl) rfl rfl rfl ?_
    refine ov (xextract rfl rfl) rfl rfl rfl ?_
    refine ov (xextract rfl rfl) rfl rfl rfl ?_
    refine ov (xassign rfl) rfl rfl rfl ?_
    refine ov (xassign rfl) rfl rfl rfl ?_
    refine ops_nil ?_
    refine run_seq ?_
    refine run_region ?_
    refine ov (xmove rfl) rfl rfl rfl ?_
    refine ov (xmove rfl) rfl rfl rfl ?_
    refine ov (xmove rfl) rfl rfl rfl ?_
    refine ov (xmove rfl) rfl rfl rfl ?_
    refine oc (xcall Try.call38 rfl) rfl rfl rfl (sWhoSees_ok _ _ _ rs49 _ _ _ fs49 b49 day49 _ (HR49).sn (HF49).sn okR49 okF49) ?_
    rintro _ w7 ⟨e7, q67_0, m67_0, d67_0, rfl, G67_0⟩
    have z7 := e7.size
    have E := E.trans e7
    replace R26 := R26.ext e7
    replace F26 := F26.ext e7
    replace HR26 := HR26.ext e7
    replace HF26 := HF26.ext e7
    replace G36_0 := G36_0.ext e7
    replace G44_0 := G44_0.ext e7
    replace R49 := R49.ext e7
    replace F49 := F49.ext e7
    replace HR49 := HR49.ext e7
    replace HF49 := HF49.ext e7
    replace G59_0 := G59_0.ext e7
    have lG67_0 := G67_0.len
    have hal67 := whoSees_len rs49 fs49 b49 day49
    refine ov (xmove rfl) rfl rfl rfl ?_
    refine ov (xextract rfl rfl) rfl rfl rfl ?_
    refine ov (xextract rfl rfl) rfl rfl rfl ?_
    refine ov (xassign rfl) rfl rfl rfl ?_
    refine ov (xassign rfl) rfl rfl rfl ?_
    refine ops_nil ?_
    refine run_seq ?_
    refine run_seq ?_
    refine run_region ?_
    refine ov (xmove rfl) rfl rfl rfl ?_
    refine ov (xmove rfl) rfl rfl rfl ?_
    refine ov (xneq rfl rfl _ rfl) rfl rfl rfl ?_
    refine ods (fun c72 => ?_) (fun c72 => ?_)
    · exfalso; exact absurd rfl c72
    ·
      refine ov (xmove rfl) rfl rfl rfl ?_
      refine ov (xmove rfl) rfl rfl rfl ?_
      refine ov (xmove rfl) rfl rfl rfl ?_
      refine oc (xcall Try.call39 rfl) rfl rfl rfl (likeTexts_ok _ _ _ _ _ _ _ _ (G36_0.sl) (G44_0.sl)) ?_
      rintro _ w8 ⟨rfl, e8⟩
      have z8 := e8.size
      have E := E.trans e8
      replace R26 := R26.ext e8
      replace F26 := F26.ext e8
      replace HR26 := HR26.ext e8
      replace HF26 := HF26.ext e8
      replace G36_0 := G36_0.ext e8
      replace G44_0 := G44_0.ext e8
      replace R49 := R49.ext e8
      replace F49 := F49.ext e8
      replace HR49 := HR49.ext e8
      replace HF49 := HF49.ext e8
      replace G59_0 := G59_0.ext e8
      replace G67_0 := G67_0.ext e8
      refine obs (fun c76 => ?_) (fun c76 => ?_)
      ·
        refine ov (xnot rfl) rfl rfl rfl ?_
        refine ov (xpick_f rfl rfl) rfl rfl rfl ?_
        refine ov (xmove rfl) rfl rfl rfl ?_
        refine ov (xmove rfl) rfl rfl rfl ?_
        refine ov (xmove rfl) rfl rfl rfl ?_
        refine ov (xneq rfl rfl _ rfl) rfl rfl rfl ?_
        refine ods (fun c82 => ?_) (fun c82 => ?_)
        · exfalso; exact absurd rfl c82
        ·
          refine ov (xpick_f rfl rfl) rfl rfl rfl ?_
          refine ov (xmove rfl) rfl rfl rfl ?_
          refine ov (xmove rfl) rfl rfl rfl ?_
          refine ov (xmove rfl) rfl rfl rfl ?_
          refine oc (xcall Try.call39 rfl) rfl rfl rfl (likeTexts_ok _ _ _ _ _ _ _ _ (G59_0.sl) (G67_0.sl)) ?_
          rintro _ w9 ⟨rfl, e9⟩
          have z9 := e9.size
          have E := E.trans e9
          replace R26 := R26.ext e9
          replace F26 := F26.ext e9
          replace HR26 := HR26.ext e9
          replace HF26 := HF26.ext e9
          replace G36_0 := G36_0.ext e9
          replace G44_0 := G44_0.ext e9
          replace R49 := R49.ext e9
          replace F49 := F49.ext e9
          replace HR49 := HR49.ext e9
          replace HF49 := HF49.ext e9
          replace G59_0 := G59_0.ext e9
          replace G67_0 := G67_0.ext e9
          refine obs (fun c87 => ?_) (fun c87 => ?_)
          ·
            refine ov (xnot rfl) rfl rfl rfl ?_
            refine ov (xpick_f rfl rfl) rfl rfl rfl ?_
            refine ops_nil ?_
            refine run_cond_f rfl ?_
            refine run_skip ?_
            refine run_seq ?_
            refine run_seq ?_
            refine run_region ?_
            refine ov (xmove rfl) rfl rfl rfl ?_
            refine ov (xneq rfl rfl _ rfl) rfl rfl rfl ?_
            refine ods (fun c91 => ?_) (fun c91 => ?_)
            ·
              refine ops_nil ?_
              refine run_cond_t rfl ?_
              refine run_seq ?_
              refine run_region ?_
              refine ov (xassign rfl) rfl rfl rfl ?_
              refine ops_nil ?_
              refine run_ret Try.func8 (res1 rfl rfl) ?_
              exact ⟨_, rfl, rfl, E⟩
            ·
              have hz0 : (seenBy rs26 fs26 a26 day26).2 = 0 := by omega
              refine ops_nil ?_
              refine run_cond_f rfl ?_
              refine run_skip ?_
              refine run_seq ?_
              refine run_seq ?_
              refine run_region ?_
              refine ov (xassign rfl) rfl rfl rfl ?_
              refine ops_nil ?_
              refine run_block ?_
              refine run_loop (ι := Nat × World) (fun x_ => match x_ with | (k, wr) => (Ext w wr) ∧ (NS cellsRoleS 3 innRoleS strc 1 wr q26 m26 d26 rs26 hdR26) ∧ (NS cellsFileS 4 innFileS strc 1 wr p26 n26 k26 fs26 hdF26) ∧ (Ow strc 1 9 wr w2.heap.size w3.heap.size q36_0 m36_0 d36_0 (seenBy rs26 fs26 a26 day26).1) ∧ (w9.heap.size ≤ wr.heap.size) ∧ (k ≤ n26)) (fun x_ => match x_ with | (k, wr) => [(3, .slice q26 m26 d26), (4, .slice p26 n26 k26), (5, .string a26), (6, .int .i64 day26), (7, .slice q36_0 m36_0 d36_0), (19, .int .i64 (k : Int))]) (fun x_ => match x_ with | (k, wr) => wr) (fun x_ => match x_ with | (k, wr) => n26 - k) ?_ (0, w9) (⟨E, HR26, HF26, G36_0, Nat.le_refl _, by omega⟩) ⟨rfl, rfl, rfl, rfl, rfl, rfl, trivial⟩ rfl
              intro i_ hI_ hback14
              obtain ⟨k, wr⟩ := i_
              obtain ⟨E, HR26, HF26, G36_0, lz_wr, hk⟩ := hI_
              try dsimp only
              have zr := E.size
              refine run_seq ?_
              refine run_seq ?_
              refine run_region ?_
              refine ov (xmove rfl) rfl rfl rfl ?_
              refine ov (xmove rfl) rfl rfl rfl ?_
              refine ov (xlen Try.underlying32 rfl) rfl rfl rfl ?_
              refine ov (xlss rfl rfl _ rfl) rfl rfl rfl ?_
              refine ods (fun c95 => ?_) (fun c95 => ?_)
              ·
                obtain ⟨ws1, ws2⟩ := who_seen hz0 (i := k) (by omega)
                refine ops_nil ?_
                refine run_cond_t rfl ?_
                refine run_skip ?_
                refine run_seq ?_
                refine run_block ?_
                refine run_seq ?_
                refine run_region ?_
                refine ov (xmove rfl) rfl rfl rfl ?_
                refine ov (xmove rfl) rfl rfl rfl ?_
                refine ov (xmove rfl) rfl rfl rfl ?_
                refine ov (xmove rfl) rfl rfl rfl ?_
                have h103 := (HF26).at (i := k) (by omega)
                refine ov (xindexN (i := k) Try.underlying32 Try.sizeOf54 rfl rfl rfl ((HF26).p (i := k) (by omega)) (by have := (HF26).len; omega)) rfl rfl rfl ?_
                refine ov (xfieldAddr fo54f0 rfl) rfl rfl rfl ?_
                refine ov (v := .string fs26[k].Code) (xload1 Try.isAgg9 rfl (h103) rfl) rfl rfl rfl ?_
                refine ov (xmove rfl) rfl rfl rfl ?_
                refine oc (xcall Try.call37 rfl) rfl rfl rfl (WhoSees_ok _ _ _ rs26 _ _ _ fs26 fs26[k].Code day26 _ (HR26).sn (HF26).sn okR26 okF26) ?_
                rintro _ w10 ⟨e10, q107_0, m107_0, d107_0, rfl, G107_0⟩
                have z10 := e10.size
                have E := E.trans e10
                replace HR26 := HR26.ext e10
                replace HF26 := HF26.ext e10
                replace G36_0 := G36_0.ext e10
                have lG107_0 := G107_0.len
                have hal107 := whoSees_len rs26 fs26 fs26[k].Code day26
                refine ov (xmove rfl) rfl rfl rfl ?_
                refine ov (xextract rfl rfl) rfl rfl rfl ?_
                refine ov (xextract rfl rfl) rfl rfl rfl ?_
                refine ov (xassign rfl) rfl rfl rfl ?_
                refine ov (xassign rfl) rfl rfl rfl ?_
                refine ops_nil ?_
                refine run_seq ?_
                refine run_draw (by kernel_rfl) (by kernel_rfl) ?_
                refine qv (fun w' x_ => xmove rfl) rfl rfl rfl ?_
                refine qv (fun w' x_ => xneq rfl rfl _ rfl) rfl rfl rfl ?_
                refine qds (fun c111 => ?_) (fun c111 => ?_)
                · exfalso; exact c111 ws1
                ·
                  refine qv (fun w' x_ => xmove rfl) rfl rfl rfl ?_
                  refine qv (fun w' x_ => xmove rfl) rfl rfl rfl ?_
                  refine qv (fun w' x_ => xmove rfl) rfl rfl rfl ?_
                  have t115 := fun (w' : World) (x_ : Ext w10 w') => Ret.q (w := w') (hasText_ok _ _ _ _ (a26) _ ((G107_0.sl).ext x_))
                  refine qc (fun w' => xcall Try.call40 rfl) rfl rfl rfl t115 ?_
                  clear t115
                  refine qv (fun w' x_ => xmove rfl) rfl rfl rfl ?_
                  refine qv (fun w' x_ => xmove rfl) rfl rfl rfl ?_
                  refine qv (fun w' x_ => xmove rfl) rfl rfl rfl ?_
                  have h119 := (HF26).at (i := k) (by omega)
                  refine qv (fun w' x_ => xindexN (i := k) Try.underlying32 Try.sizeOf54 rfl rfl rfl ((HF26).p (i := k) (by omega)) (by have := (HF26).len; omega)) rfl rfl rfl ?_
                  refine qv (fun w' x_ => xfieldAddr fo54f0 rfl) rfl rfl rfl ?_
                  refine qv (v := .string fs26[k].Code) (fun w' x_ => xload1 Try.isAgg9 rfl ((h119).ext x_) rfl) rfl rfl rfl ?_
                  have t122 := fun (w' : World) (x_ : Ext w10 w') => Ret.q (w := w') (hasText_ok _ _ _ _ (fs26[k].Code) _ ((G36_0.sl).ext x_))
                  refine qc (fun w' => xcall Try.call40 rfl) rfl rfl rfl t122 ?_
                  clear t122
                  refine qv (fun w' x_ => xbneq Try.underlying4 rfl rfl) rfl rfl rfl ?_
                  refine qds (fun c123 => ?_) (fun c123 => ?_)
                  · exfalso; exact c123 ws2
                  ·
                    refine qv (fun w' x_ => xpick_f rfl rfl) rfl rfl rfl ?_
                    refine q_nil ?_
                    intro w11 e11
                    have z11 := e11.size
                    have E := E.trans e11
                    replace HR26 := HR26.ext e11
                    replace HF26 := HF26.ext e11
                    replace G36_0 := G36_0.ext e11
                    replace G107_0 := G107_0.ext e11
                    refine run_cond_f rfl ?_
                    refine run_skip ?_
                    refine run_inBlock ?_
                    refine run_region ?_
                    refine ov (xmove rfl) rfl rfl rfl ?_
                    refine ov (xadd rfl rfl (by unfold I64; omega)) rfl rfl rfl ?_
                    refine ov (xassign rfl) rfl rfl rfl ?_
                    refine ops_nil ?_
                    refine run_sub ?_ (hback14 (k + 1, w11) (⟨E, HR26, HF26, G36_0, by omega, by omega⟩) (by first | omega | (dsimp only; omega)))
                    exact ⟨rfl, rfl, rfl, rfl, rfl, rfl, trivial⟩
              ·
                refine ops_nil ?_
                refine run_cond_f rfl ?_
                refine run_exit rfl ?_
                refine run_seq ?_
                refine run_region ?_
                refine ov (xassign rfl) rfl rfl rfl ?_
                refine ops_nil ?_
                refine run_ret Try.func8 (res1 rfl rfl) ?_
                exact ⟨_, rfl, rfl, E⟩
          · exfalso; cases c87
      · exfalso; cases c76
end Go.Proofs.Ytbihpggbabmebaa
