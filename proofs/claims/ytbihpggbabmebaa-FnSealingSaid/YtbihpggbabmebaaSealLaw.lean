/-
  The law on sealing: the walk. No condition beyond those written in each theorem.
-/
import Derived.Test.YtbihpggbabmebaaSealDraw
import Derived.Test.YtbihpggbabmebaaSeenLaw
import Derived.Test.YtbihpggbabmebaaLeastS
namespace Go.Proofs.Ytbihpggbabmebaa
open Go.RowKit
set_option linter.unusedVariables false
set_option linter.unusedSimpArgs false
set_option linter.unusedSectionVars false
set_option maxRecDepth 4000

theorem run_join {P : Program} {f : FuncId} {N : Nat} {R : Ending → World → Prop} {k : List Item} {A C : Code} {τ σ : Env} {w : World} (I : World → Prop) (hA : (∀ w', I w' → Run P f N R (.code C :: k) τ w') → Run P f N R (.code (.seq A C) :: k) σ w)
    (hk : ∀ w', I w' → Run P f N R (.code C :: k) τ w') : Run P f N R (.code (.seq A C) :: k) σ w := hA hk

theorem sealFile_ok {fs : List File} {file : ByteArray} {level till : Int} (h : ∀ f ∈ fs, f.ok) (hl : I64 level) (ht : I64 till) : ∀ f ∈ (sealFile fs file level till).1, f.ok := by
  unfold sealFile
  split
  · intro f hf; cases hf
  · split
    · intro f hf; cases hf
    · split
      · intro f hf; cases hf
      · intro f hf
        simp only at hf
        unfold sealL at hf
        split at hf
        · rename_i g hg
          rcases List.mem_or_eq_of_mem_set hf with hf | rfl
          · exact h f hf
          · obtain ⟨h1, h2, h3, h4⟩ := h g (List.mem_of_getElem? hg)
            refine ⟨h1, ?_, h3, ?_⟩
            · simp only [sealF]; unfold I64 at *; omega
            · simp only [sealF]; unfold I64 at *; omega
        · exact h f hf

set_option maxHeartbeats 2000000 in
theorem likeFiles_ok (p q : Option Addr) (n c m d : Nat) (xs : List File) (w : World) (H0 : SnFileS w p n c xs) (K0 : SnFileS w q m d xs) : Ret Try.prog 52 [.slice p n c, .slice q m d] w (Pv w (.bool true)) := by
  refine ret_of_run (N := 68) Try.func52 rfl rfl rfl ?_
  obtain ⟨hd, H⟩ := H0
  have hn := H.len
  have hn6 := H.n64
  obtain ⟨he_, K⟩ := K0
  have hm := K.len
  have hm6 := K.n64
  have E : Ext w w := Ext.refl w
  refine run_seq ?_
  refine run_region ?_
  refine ov (xassign rfl) rfl rfl rfl ?_
  refine ops_nil ?_
  refine run_seq ?_
  refine run_seq ?_
  refine run_region ?_
  refine ov (xmove rfl) rfl rfl rfl ?_
  refine ov (xlen Try.underlying32 rfl) rfl rfl rfl ?_
  refine ov (xmove rfl) rfl rfl rfl ?_
  refine ov (xlen Try.underlying32 rfl) rfl rfl rfl ?_
  refine ov (xneq rfl rfl _ rfl) rfl rfl rfl ?_
  refine ods (fun c10 => ?_) (fun c10 => ?_)
  · exfalso; omega
  ·
    refine ops_nil ?_
    refine run_cond_f rfl ?_
    refine run_skip ?_
    refine run_seq ?_
    refine run_seq ?_
    refine run_region ?_
    refine ov (xassign rfl) rfl rfl rfl ?_
    refine ops_nil ?_
    refine run_block ?_
    refine run_loop (ι := Nat × World) (fun x_ => match x_ with | (k, wr) => (Ext w wr) ∧ (w.heap.size ≤ wr.heap.size) ∧ (k ≤ n)) (fun x_ => match x_ with | (k, wr) => [(0, .slice p n c), (1, .slice q m d), (5, .int .i64 (k : Int))]) (fun x_ => match x_ with | (k, wr) => wr) (fun x_ => match x_ with | (k, wr) => n - k) ?_ (0, w) (⟨E, Nat.le_refl _, by omega⟩) ⟨rfl, rfl, rfl, trivial⟩ rfl
    intro i_ hI_ hback4
    obtain ⟨k, wr⟩ := i_
    obtain ⟨E, lz_wr, hk⟩ := hI_
    try dsimp only
    have zr := E.size
    refine run_seq ?_
    refine run_seq ?_
    refine run_region ?_
    refine ov (xmove rfl) rfl rfl rfl ?_
    refine ov (xmove rfl) rfl rfl rfl ?_
    refine ov (xlen Try.underlying32 rfl) rfl rfl rfl ?_
    refine ov (xlss rfl rfl _ rfl) rfl rfl rfl ?_
    refine ods (fun c14 => ?_) (fun c14 => ?_)
    ·
      refine ops_nil ?_
      refine run_cond_t rfl ?_
      refine run_skip ?_
      refine run_seq ?_
      refine run_block ?_
      refine run_seq ?_
      refine run_draw (by kernel_rfl) (by kernel_rfl) ?_
      refine qv (fun w' x_ => xmove rfl) rfl rfl rfl ?_
      refine qv (fun w' x_ => xmove rfl) rfl rfl rfl ?_
      have h19 := (H.ext E).at (i := k) (by omega)
      refine qv (fun w' x_ => xindexN (i := k) Try.underlying32 Try.sizeOf54 rfl rfl rfl ((H.ext E).p (i := k) (by omega)) (by have := (H.ext E).len; omega)) rfl rfl rfl ?_
      refine qv (fun w' x_ => xfieldAddr fo54f0 rfl) rfl rfl rfl ?_
      refine qv (v := .string xs[k].Code) (fun w' x_ => xload1 Try.isAgg9 rfl ((h19).ext x_) rfl) rfl rfl rfl ?_
      refine qv (fun w' x_ => xmove rfl) rfl rfl rfl ?_
      refine qv (fun w' x_ => xmove rfl) rfl rfl rfl ?_
      have h24 := (K.ext E).at (i := k) (by omega)
      refine qv (fun w' x_ => xindexN (i := k) Try.underlying32 Try.sizeOf54 rfl rfl rfl ((K.ext E).p (i := k) (by omega)) (by have := (K.ext E).len; omega)) rfl rfl rfl ?_
      refine qv (fun w' x_ => xfieldAddr fo54f0 rfl) rfl rfl rfl ?_
      refine qv (v := .string xs[k].Code) (fun w' x_ => xload1 Try.isAgg9 rfl ((h24).ext x_) rfl) rfl rfl rfl ?_
      refine qv (fun w' x_ => xsneq rfl rfl _ rfl) rfl rfl rfl ?_
      refine qds (fun c27 => ?_) (fun c27 => ?_)
      · exfalso; exact c27 rfl
      ·
        refine qv (fun w' x_ => xmove rfl) rfl rfl rfl ?_
        refine qv (fun w' x_ => xmove rfl) rfl rfl rfl ?_
        refine qv (fun w' x_ => xmove rfl) rfl rfl rfl ?_
        have h31 := (H.ext E).at (i := k) (by omega)
        refine qv (fun w' x_ => xindexN (i := k) Try.underlying32 Try.sizeOf54 rfl rfl rfl ((H.ext E).p (i := k) (by omega)) (by have := (H.ext E).len; omega)) rfl rfl rfl ?_
        refine qv (fun w' x_ => xfieldAddr fo54f1 rfl) rfl rfl rfl ?_
        refine qv (v := .int .i64 xs[k].Level) (fun w' x_ => xload1 Try.isAgg2 rfl ((h31).ext x_) rfl) rfl rfl rfl ?_
        refine qv (fun w' x_ => xmove rfl) rfl rfl rfl ?_
        refine qv (fun w' x_ => xmove rfl) rfl rfl rfl ?_
        have h36 := (K.ext E).at (i := k) (by omega)
        refine qv (fun w' x_ => xindexN (i := k) Try.underlying32 Try.sizeOf54 rfl rfl rfl ((K.ext E).p (i := k) (by omega)) (by have := (K.ext E).len; omega)) rfl rfl rfl ?_
        refine qv (fun w' x_ => xfieldAddr fo54f1 rfl) rfl rfl rfl ?_
        refine qv (v := .int .i64 xs[k].Level) (fun w' x_ => xload1 Try.isAgg2 rfl ((h36).ext x_) rfl) rfl rfl rfl ?_
        refine qv (fun w' x_ => xneq rfl rfl _ rfl) rfl rfl rfl ?_
        refine qds (fun c39 => ?_) (fun c39 => ?_)
        · exfalso; exact c39 rfl
        ·
          refine qv (fun w' x_ => xpick_f rfl rfl) rfl rfl rfl ?_
          refine qv (fun w' x_ => xmove rfl) rfl rfl rfl ?_
          refine qv (fun w' x_ => xmove rfl) rfl rfl rfl ?_
          refine qv (fun w' x_ => xmove rfl) rfl rfl rfl ?_
          have h44 := (H.ext E).at (i := k) (by omega)
          refine qv (fun w' x_ => xindexN (i := k) Try.underlying32 Try.sizeOf54 rfl rfl rfl ((H.ext E).p (i := k) (by omega)) (by have := (H.ext E).len; omega)) rfl rfl rfl ?_
          refine qv (fun w' x_ => xfieldAddr fo54f3 rfl) rfl rfl rfl ?_
          refine qv (v := .int .i64 xs[k].Until) (fun w' x_ => xload1 Try.isAgg2 rfl ((h44).ext x_) rfl) rfl rfl rfl ?_
          refine qv (fun w' x_ => xmove rfl) rfl rfl rfl ?_
          refine qv (fun w' x_ => xmove rfl) rfl rfl rfl ?_
          have h49 := (K.ext E).at (i := k) (by omega)
          refine qv (fun w' x_ => xindexN (i := k) Try.underlying32 Try.sizeOf54 rfl rfl rfl ((K.ext E).p (i := k) (by omega)) (by have := (K.ext E).len; omega)) rfl rfl rfl ?_
          refine qv (fun w' x_ => xfieldAddr fo54f3 rfl) rfl rfl rfl ?_
          refine qv (v := .int .i64 xs[k].Until) (fun w' x_ => xload1 Try.isAgg2 rfl ((h49).ext x_) rfl) rfl rfl rfl ?_
          refine qv (fun w' x_ => xneq rfl rfl _ rfl) rfl rfl rfl ?_
          refine qds (fun c52 => ?_) (fun c52 => ?_)
          · exfalso; exact c52 rfl
          ·
            refine qv (fun w' x_ => xpick_f rfl rfl) rfl rfl rfl ?_
            refine qv (fun w' x_ => xmove rfl) rfl rfl rfl ?_
            refine qv (fun w' x_ => xmove rfl) rfl rfl rfl ?_
            refine qv (fun w' x_ => xmove rfl) rfl rfl rfl ?_
            have h57 := (H.ext E).at (i := k) (by omega)
            refine qv (fun w' x_ => xindexN (i := k) Try.underlying32 Try.sizeOf54 rfl rfl rfl ((H.ext E).p (i := k) (by omega)) (by have := (H.ext E).len; omega)) rfl rfl rfl ?_
            refine qv (fun w' x_ => xfieldAddr fo54f2 rfl) rfl rfl rfl ?_
            refine qv (v := .slice (hd k).p (hd k).n (hd k).c) (fun w' x_ => xload1 Try.isAgg49 rfl ((h57).ext x_) rfl) rfl rfl rfl ?_
            refine qv (fun w' x_ => xmove rfl) rfl rfl rfl ?_
            refine qv (fun w' x_ => xmove rfl) rfl rfl rfl ?_
            have h62 := (K.ext E).at (i := k) (by omega)
            refine qv (fun w' x_ => xindexN (i := k) Try.underlying32 Try.sizeOf54 rfl rfl rfl ((K.ext E).p (i := k) (by omega)) (by have := (K.ext E).len; omega)) rfl rfl rfl ?_
            refine qv (fun w' x_ => xfieldAddr fo54f2 rfl) rfl rfl rfl ?_
            refine qv (v := .slice (he_ k).p (he_ k).n (he_ k).c) (fun w' x_ => xload1 Try.isAgg49 rfl ((h62).ext x_) rfl) rfl rfl rfl ?_
            have t65 := fun (w' : World) (x_ : Ext wr w') => Ret.q (w := w') (likeTexts_ok _ _ _ _ _ _ _ _ (((show Sl strc 1 _ _ _ _ xs[k].Groups from (H.inner (i := k) (by omega)).ext E)).ext x_) (((show Sl strc 1 _ _ _ _ xs[k].Groups from (K.inner (i := k) (by omega)).ext E)).ext x_))
            refine qc (fun w' => xcall Try.call39 rfl) rfl rfl rfl t65 ?_
            clear t65
            refine qbs (fun c65 => ?_) (fun c65 => ?_)
            ·
              refine qv (fun w' x_ => xnot rfl) rfl rfl rfl ?_
              refine qv (fun w' x_ => xpick_f rfl rfl) rfl rfl rfl ?_
              refine q_nil ?_
              intro w1 e1
              have z1 := e1.size
              have E := E.trans e1
              refine run_cond_f rfl ?_
              refine run_skip ?_
              refine run_inBlock ?_
              refine run_region ?_
              refine ov (xmove rfl) rfl rfl rfl ?_
              refine ov (xadd rfl rfl (by unfold I64; omega)) rfl rfl rfl ?_
              refine ov (xassign rfl) rfl rfl rfl ?_
              refine ops_nil ?_
              refine run_sub ?_ (hback4 (k + 1, w1) (⟨E, by omega, by omega⟩) (by first | omega | (dsimp only; omega)))
              exact ⟨rfl, rfl, rfl, trivial⟩
            · exfalso; cases c65
    ·
      refine ops_nil ?_
      refine run_cond_f rfl ?_
      refine run_exit rfl ?_
      refine run_seq ?_
      refine run_region ?_
      refine ov (xassign rfl) rfl rfl rfl ?_
      refine ops_nil ?_
      refine run_ret Try.func52 (res1 rfl rfl) ?_
      exact ⟨_, rfl, rfl, E⟩

set_option maxHeartbeats 8000000 in
theorem FnSealing_ok (p : Option Addr) (n c : Nat) (bs : List Int) (w : World) (H : Sl u8c 1 w p n c bs) (hbs : ∀ x ∈ bs, 0 ≤ x ∧ x ≤ 255) : Ret Try.prog 13 [.slice p n c] w (Pv w (.bool true)) := by
  refine ret_of_run (N := 367) Try.func13 rfl rfl rfl ?_
  have hn := H.len
  have E : Ext w w := Ext.refl w
  refine run_seq ?_
  refine run_region ?_
  refine ov (xassign rfl) rfl rfl rfl ?_
  refine ops_nil ?_
  refine run_seq ?_
  refine run_seq ?_
  refine run_region ?_
  refine ov (xmove rfl) rfl rfl rfl ?_
  refine oc (xcall Try.call32 rfl) rfl rfl rfl (big_ok _ _ _ _ _ (H.ext E)) ?_
  rintro _ w1 ⟨rfl, e1⟩
  have z1 := e1.size
  have E := E.trans e1
  refine obs (fun c51 => ?_) (fun c51 => ?_)
  ·
    refine ops_nil ?_
    refine run_cond_t rfl ?_
    refine run_seq ?_
    refine run_region ?_
    refine ov (xassign rfl) rfl rfl rfl ?_
    refine ops_nil ?_
    refine run_ret Try.func13 (res1 rfl rfl) ?_
    exact ⟨_, rfl, rfl, E⟩
  ·
    refine ops_nil ?_
    refine run_cond_f rfl ?_
    refine run_skip ?_
    refine run_seq ?_
    refine run_region ?_
    refine ov (xmove rfl) rfl rfl rfl ?_
    refine oc (xcall Try.call49 rfl) rfl rfl rfl (DrawSealFile_ok _ _ _ _ _ (H.ext E) (by assumption)) ?_
    rintro _ w2 ⟨e2, fs54, p54, n54, k54, b54, lv54, day54, rfl, okF54, lF54, F54, hlv54, hday54⟩
    have z2 := e2.size
    have E := E.trans e2
    replace F54 : OnFileS _ _ _ _ _ _ fs54 := F54
    obtain ⟨hdF54, HF54⟩ := On.sl F54
    have nF54 := HF54.len
    refine ov (xmove rfl) rfl rfl rfl ?_
    refine ov (xextract rfl rfl) rfl rfl rfl ?_
    refine ov (xextract rfl rfl) rfl rfl rfl ?_
    refine ov (xextract rfl rfl) rfl rfl rfl ?_
    refine ov (xextract rfl rfl) rfl rfl rfl ?_
    refine ov (xassign rfl) rfl rfl rfl ?_
    refine ov (xassign rfl) rfl rfl rfl ?_
    refine ov (xassign rfl) rfl rfl rfl ?_
    refine ov (xassign rfl) rfl rfl rfl ?_
    refine ops_nil ?_
    refine run_seq ?_
    refine run_region ?_
    refine ov (xmove rfl) rfl rfl rfl ?_
    refine ov (xmove rfl) rfl rfl rfl ?_
    refine ov (xmove rfl) rfl rfl rfl ?_
    refine ov (xmove rfl) rfl rfl rfl ?_
    refine oc (xcall Try.call27 rfl) rfl rfl rfl (SealFile_ok _ _ _ fs54 b54 lv54 day54 _ (HF54).sn okF54) ?_
    rintro _ w3 ⟨e3, q64_0, m64_0, d64_0, rfl, G64_0⟩
    have z3 := e3.size
    have E := E.trans e3
    replace F54 := F54.ext e3
    replace HF54 := HF54.ext e3
    have lG64_0 := G64_0.len
    refine ov (xmove rfl) rfl rfl rfl ?_
    refine ov (xextract rfl rfl) rfl rfl rfl ?_
    refine ov (xextract rfl rfl) rfl rfl rfl ?_
    refine ov (xassign rfl) rfl rfl rfl ?_
    refine ov (xassign rfl) rfl rfl rfl ?_
    refine ops_nil ?_
    refine run_seq ?_
    refine run_region ?_
    refine ov (xmove rfl) rfl rfl rfl ?_
    refine ov (xmove rfl) rfl rfl rfl ?_
    refine ov (xmove rfl) rfl rfl rfl ?_
    refine ov (xmove rfl) rfl rfl rfl ?_
    refine oc (xcall Try.call26 rfl) rfl rfl rfl (sSealFile_ok _ _ _ fs54 b54 lv54 day54 _ (HF54).sn okF54) ?_
    rintro _ w4 ⟨e4, q72_0, m72_0, d72_0, rfl, G72_0⟩
    have z4 := e4.size
    have E := E.trans e4
    replace F54 := F54.ext e4
    replace HF54 := HF54.ext e4
    replace G64_0 := G64_0.ext e4
    have lG72_0 := G72_0.len
    refine ov (xmove rfl) rfl rfl rfl ?_
    refine ov (xextract rfl rfl) rfl rfl rfl ?_
    refine ov (xextract rfl rfl) rfl rfl rfl ?_
    refine ov (xassign rfl) rfl rfl rfl ?_
    refine ov (xassign rfl) rfl rfl rfl ?_
    refine ops_nil ?_
    refine run_seq ?_
    refine run_region ?_
    refine ov (xmove rfl) rfl rfl rfl ?_
    refine oc (xcall Try.call50 rfl) rfl rfl rfl (DrawMaySee_ok _ _ _ _ _ (H.ext E) (by assumption)) ?_
    rintro _ w5 ⟨e5, rs77, q77, m77, d77, fs77, p77, n77, k77, a77, b77, day77, rfl, okR77, lR77, R77, okF77, lF77, F77, hday77⟩
    have z5 := e5.size
    have E := E.trans e5
    replace F54 := F54.ext e5
    replace HF54 := HF54.ext e5
    replace G64_0 := G64_0.ext e5
    replace G72_0 := G72_0.ext e5
    replace R77 : OnRoleS _ _ _ _ _ _ rs77 := R77
    replace F77 : OnFileS _ _ _ _ _ _ fs77 := F77
    obtain ⟨hdR77, HR77⟩ := On.sl R77
    obtain ⟨hdF77, HF77⟩ := On.sl F77
    have nR77 := HR77.len
    have nF77 := HF77.len
    refine ov (xmove rfl) rfl rfl rfl ?_
    refine ov (xextract rfl rfl) rfl rfl rfl ?_
    refine ov (xextract rfl rfl) rfl rfl rfl ?_
    refine ov (xextract rfl rfl) rfl rfl rfl ?_
    refine ov (xextract rfl rfl) rfl rfl rfl ?_
    refine ov (xextract rfl rfl) rfl rfl rfl ?_
    refine ov (xassign rfl) rfl rfl rfl ?_
    refine ov (xassign rfl) rfl rfl rfl ?_
    refine ov (xassign rfl) rfl rfl rfl ?_
    refine ov (xassign rfl) rfl rfl rfl ?_
    refine ov (xassign rfl) rfl rfl rfl ?_
    refine ops_nil ?_
    refine run_seq ?_
    refine run_region ?_
    refine ov (xmove rfl) rfl rfl rfl ?_
    refine ov (xmove rfl) rfl rfl rfl ?_
    refine ov (xmove rfl) rfl rfl rfl ?_
    refine ov (xmove rfl) rfl rfl rfl ?_
    refine ov (xmove rfl) rfl rfl rfl ?_
    have okS := sealFile_ok (file := b54) (level := lv54) (till := day54) okF54 (by unfold I64; omega) (by unfold I64; omega)
    refine oc (xcall Try.call31 rfl) rfl rfl rfl (MaySee_ok _ _ _ rs77 _ _ _ fs77 a77 b77 day77 _ (HR77).sn (HF77).sn okR77 okF77) ?_
    rintro _ w6 ⟨rfl, e6⟩
    have z6 := e6.size
    have E := E.trans e6
    replace F54 := F54.ext e6
    replace HF54 := HF54.ext e6
    replace G64_0 := G64_0.ext e6
    replace G72_0 := G72_0.ext e6
    replace R77 := R77.ext e6
    replace F77 := F77.ext e6
    replace HR77 := HR77.ext e6
    replace HF77 := HF77.ext e6
    refine ov (xmove rfl) rfl rfl rfl ?_
    refine ov (xextract rfl rfl) rfl rfl rfl ?_
    refine ov (xextract rfl rfl) rfl rfl rfl ?_
    refine ov (xassign rfl) rfl rfl rfl ?_
    refine ov (xassign rfl) rfl rfl rfl ?_
    refine ops_nil ?_
    refine run_seq ?_
    refine run_region ?_
    refine ov (xmove rfl) rfl rfl rfl ?_
    refine ov (xmove rfl) rfl rfl rfl ?_
    refine ov (xmove rfl) rfl rfl rfl ?_
    refine ov (xmove rfl) rfl rfl rfl ?_
    refine ov (xmove rfl) rfl rfl rfl ?_
    refine oc (xcall Try.call30 rfl) rfl rfl rfl (sMaySee_ok _ _ _ rs77 _ _ _ fs77 a77 b77 day77 _ (HR77).sn (HF77).sn okR77 okF77) ?_
    rintro _ w7 ⟨rfl, e7⟩
    have z7 := e7.size
    have E := E.trans e7
    replace F54 := F54.ext e7
    replace HF54 := HF54.ext e7
    replace G64_0 := G64_0.ext e7
    replace G72_0 := G72_0.ext e7
    replace R77 := R77.ext e7
    replace F77 := F77.ext e7
    replace HR77 := HR77.ext e7
    replace HF77 := HF77.ext e7
    refine ov (xmove rfl) rfl rfl rfl ?_
    refine ov (xextract rfl rfl) rfl rfl rfl ?_
    refine ov (xextract rfl rfl) rfl rfl rfl ?_
    refine ov (xassign rfl) rfl rfl rfl ?_
    refine ov (xassign rfl) rfl rfl rfl ?_
    refine ops_nil ?_
    refine run_seq ?_
    refine run_region ?_
    refine ov (xmove rfl) rfl rfl rfl ?_
    refine oc (xcall Try.call51 rfl) rfl rfl rfl (DrawIsAbove_ok _ _ _ _ _ (H.ext E) (by assumption)) ?_
    rintro _ w8 ⟨e8, rs103, q103, m103, d103, a103, b103, rfl, okR103, lR103, R103⟩
    have z8 := e8.size
    have E := E.trans e8
    replace F54 := F54.ext e8
    replace HF54 := HF54.ext e8
    replace G64_0 := G64_0.ext e8
    replace G72_0 := G72_0.ext e8
    replace R77 := R77.ext e8
    replace F77 := F77.ext e8
    replace HR77 := HR77.ext e8
    replace HF77 := HF77.ext e8
    replace R103 : OnRoleS _ _ _ _ _ _ rs103 := R103
    obtain ⟨hdR103, HR103⟩ := On.sl R103
    have nR103 := HR103.len
    refine ov (xmove rfl) rfl rfl rfl ?_
    refine ov (xextract rfl rfl) rfl rfl rfl ?_
    refine ov (xextract rfl rfl) rfl rfl rfl ?_
    refine ov (xextract rfl rfl) rfl rfl rfl ?_
    refine ov (xassign rfl) rfl rfl rfl ?_
    refine ov (xassign rfl) rfl rfl rfl ?_
    refine ov (xassign rfl) rfl rfl rfl ?_
    refine ops_nil ?_
    refine run_seq ?_
    refine run_region ?_
    refine ov (xmove rfl) rfl rfl rfl ?_
    refine ov (xmove rfl) rfl rfl rfl ?_
    refine ov (xmove rfl) rfl rfl rfl ?_
    refine oc (xcall Try.call25 rfl) rfl rfl rfl (IsAbove_ok _ _ _ rs103 a103 b103 _ (HR103).sn okR103) ?_
    rintro _ w9 ⟨rfl, e9⟩
    have z9 := e9.size
    have E := E.trans e9
    replace F54 := F54.ext e9
    replace HF54 := HF54.ext e9
    replace G64_0 := G64_0.ext e9
    replace G72_0 := G72_0.ext e9
    replace R77 := R77.ext e9
    replace F77 := F77.ext e9
    replace HR77 := HR77.ext e9
    replace HF77 := HF77.ext e9
    replace R103 := R103.ext e9
    replace HR103 := HR103.ext e9
    refine ov (xmove rfl) rfl rfl rfl ?_
    refine ov (xextract rfl rfl) rfl rfl rfl ?_
    refine ov (xextract rfl rfl) rfl rfl rfl ?_
    refine ov (xassign rfl) rfl rfl rfl ?_
    refine ov (xassign rfl) rfl rfl rfl ?_
    refine ops_nil ?_
    refine run_seq ?_
    refine run_region ?_
    refine ov (xmove rfl) rfl rfl rfl ?_
    refine ov (xmove rfl) rfl rfl rfl ?_
    refine ov (xmove rfl) rfl rfl rfl ?_
    refine oc (xcall Try.call24 rfl) rfl rfl rfl (sIsAbove_ok _ _ _ rs103 a103 b103 _ (HR103).sn okR103) ?_
    rintro _ w10 ⟨rfl, e10⟩
    have z10 := e10.size
    have E := E.trans e10
    replace F54 := F54.ext e10
    replace HF54 := HF54.ext e10
    replace G64_0 := G64_0.ext e10
    replace G72_0 := G72_0.ext e10
    replace R77 := R77.ext e10
    replace F77 := F77.ext e10
    replace HR77 := HR77.ext e10
    replace HF77 := HF77.ext e10
    replace R103 := R103.ext e10
    replace HR103 := HR103.ext e10
    refine ov (xmove rfl) rfl rfl rfl ?_
    refine ov (xextract rfl rfl) rfl rfl rfl ?_
    refine ov (xextract rfl rfl) rfl rfl rfl ?_
    refine ov (xassign rfl) rfl rfl rfl ?_
    refine ov (xassign rfl) rfl rfl rfl ?_
    refine ops_nil ?_
    refine run_seq ?_
    refine run_region ?_
    refine ov (xmove rfl) rfl rfl rfl ?_
    refine ov (xmove rfl) rfl rfl rfl ?_
    refine ov (xmove rfl) rfl rfl rfl ?_
    refine ov (xmove rfl) rfl rfl rfl ?_
    refine oc (xcall Try.call42 rfl) rfl rfl rfl (FirstDay_ok _ _ _ rs77 _ _ _ fs77 a77 b77 _ (HR77).sn (HF77).sn okR77 okF77) ?_
    rintro _ w11 ⟨rfl, e11⟩
    have z11 := e11.size
    have E := E.trans e11
    replace F54 := F54.ext e11
    replace HF54 := HF54.ext e11
    replace G64_0 := G64_0.ext e11
    replace G72_0 := G72_0.ext e11
    replace R77 := R77.ext e11
    replace F77 := F77.ext e11
    replace HR77 := HR77.ext e11
    replace HF77 := HF77.ext e11
    replace R103 := R103.ext e11
    replace HR103 := HR103.ext e11
    refine ov (xmove rfl) rfl rfl rfl ?_
    refine ov (xextract rfl rfl) rfl rfl rfl ?_
    refine ov (xextract rfl rfl) rfl rfl rfl ?_
    refine ov (xassign rfl) rfl rfl rfl ?_
    refine ov (xassign rfl) rfl rfl rfl ?_
    refine ops_nil ?_
    refine run_seq ?_
    refine run_region ?_
    refine ov (xmove rfl) rfl rfl rfl ?_
    refine ov (xmove rfl) rfl rfl rfl ?_
    refine ov (xmove rfl) rfl rfl rfl ?_
    refine ov (xmove rfl) rfl rfl rfl ?_
    refine oc (xcall Try.call41 rfl) rfl rfl rfl (sFirstDay_ok _ _ _ rs77 _ _ _ fs77 a77 b77 _ (HR77).sn (HF77).sn okR77 okF77) ?_
    rintro _ w12 ⟨rfl, e12⟩
    have z12 := e12.size
    have E := E.trans e12
    replace F54 := F54.ext e12
    replace HF54 := HF54.ext e12
    replace G64_0 := G64_0.ext e12
    replace G72_0 := G72_0.ext e12
    replace R77 := R77.ext e12
    replace F77 := F77.ext e12
    replace HR77 := HR77.ext e12
    replace HF77 := HF77.ext e12
    replace R103 := R103.ext e12
    replace HR103 := HR103.ext e12
    refine ov (xmove rfl) rfl rfl rfl ?_
    refine ov (xextract rfl rfl) rfl rfl rfl ?_
    refine ov (xextract rfl rfl) rfl rfl rfl ?_
    refine ov (xassign rfl) rfl rfl rfl ?_
    refine ov (xassign rfl) rfl rfl rfl ?_
    refine ops_nil ?_
    refine run_seq ?_
    refine run_region ?_
    refine ov (xmove rfl) rfl rfl rfl ?_
    refine ov (xmove rfl) rfl rfl rfl ?_
    refine ov (xmove rfl) rfl rfl rfl ?_
    refine oc (xcall Try.call48 rfl) rfl rfl rfl (LeastRoles_ok _ _ _ rs77 _ _ _ fs77 day77 _ (HR77).sn (HF77).sn okR77 okF77) ?_
    rintro _ w13 ⟨e13, q141_0, m141_0, d141_0, rfl, G141_0⟩
    have z13 := e13.size
    have E := E.trans e13
    replace F54 := F54.ext e13
    replace HF54 := HF54.ext e13
    replace G64_0 := G64_0.ext e13
    replace G72_0 := G72_0.ext e13
    replace R77 := R77.ext e13
    replace F77 := F77.ext e13
    replace HR77 := HR77.ext e13
    replace HF77 := HF77.ext e13
    replace R103 := R103.ext e13
    replace HR103 := HR103.ext e13
    have lG141_0 := G141_0.len
    refine ov (xmove rfl) rfl rfl rfl ?_
    refine ov (xextract rfl rfl) rfl rfl rfl ?_
    refine ov (xextract rfl rfl) rfl rfl rfl ?_
    refine ov (xassign rfl) rfl rfl rfl ?_
    refine ov (xassign rfl) rfl rfl rfl ?_
    refine ops_nil ?_
    refine run_seq ?_
    refine run_region ?_
    refine ov (xmove rfl) rfl rfl rfl ?_
    refine ov (xmove rfl) rfl rfl rfl ?_
    refine ov (xmove rfl) rfl rfl rfl ?_
    refine oc (xcall Try.call47 rfl) rfl rfl rfl (sLeastRoles_ok _ _ _ rs77 _ _ _ fs77 day77 _ (HR77).sn (HF77).sn okR77 okF77) ?_
    rintro _ w14 ⟨e14, q148_0, m148_0, d148_0, rfl, G148_0⟩
    have z14 := e14.size
    have E := E.trans e14
    replace F54 := F54.ext e14
    replace HF54 := HF54.ext e14
    replace G64_0 := G64_0.ext e14
    replace G72_0 := G72_0.ext e14
    replace R77 := R77.ext e14
    replace F77 := F77.ext e14
    replace HR77 := HR77.ext e14
    replace HF77 := HF77.ext e14
    replace R103 := R103.ext e14
    replace HR103 := HR103.ext e14
    replace G141_0 := G141_0.ext e14
    have lG148_0 := G148_0.len
    refine ov (xmove rfl) rfl rfl rfl ?_
    refine ov (xextract rfl rfl) rfl rfl rfl ?_
    refine ov (xextract rfl rfl) rfl rfl rfl ?_
    refine ov (xassign rfl) rfl rfl rfl ?_
    refine ov (xassign rfl) rfl rfl rfl ?_
    refine ops_nil ?_
    refine run_seq ?_
    refine run_seq ?_
    refine run_region ?_
    refine ov (xmove rfl) rfl rfl rfl ?_
    refine ov (xmove rfl) rfl rfl rfl ?_
    refine ov (xneq rfl rfl _ rfl) rfl rfl rfl ?_
    refine ods (fun c153 => ?_) (fun c153 => ?_)
    · exfalso; exact absurd rfl c153
    ·
      refine ov (xmove rfl) rfl rfl rfl ?_
      refine ov (xmove rfl) rfl rfl rfl ?_
      refine ov (xmove rfl) rfl rfl rfl ?_
      refine oc (xcall Try.call52 rfl) rfl rfl rfl (likeFiles_ok _ _ _ _ _ _ (sealFile fs54 b54 lv54 day54).1 _ (G64_0.sl).sn (G72_0.sl).sn) ?_
      rintro _ w15 ⟨rfl, e15⟩
      have z15 := e15.size
      have E := E.trans e15
      replace F54 := F54.ext e15
      replace HF54 := HF54.ext e15
      replace G64_0 := G64_0.ext e15
      replace G72_0 := G72_0.ext e15
      replace R77 := R77.ext e15
      replace F77 := F77.ext e15
      replace HR77 := HR77.ext e15
      replace HF77 := HF77.ext e15
      replace R103 := R103.ext e15
      replace HR103 := HR103.ext e15
      replace G141_0 := G141_0.ext e15
      replace G148_0 := G148_0.ext e15
      refine obs (fun c157 => ?_) (fun c157 => ?_)
      ·
        refine ov (xnot rfl) rfl rfl rfl ?_
        refine ov (xpick_f rfl rfl) rfl rfl rfl ?_
        refine ov (xmove rfl) rfl rfl rfl ?_
        refine ov (xmove rfl) rfl rfl rfl ?_
        refine ov (xmove rfl) rfl rfl rfl ?_
        refine ov (xneq rfl rfl _ rfl) rfl rfl rfl ?_
        refine ods (fun c163 => ?_) (fun c163 => ?_)
        · exfalso; exact absurd rfl c163
        ·
          refine ov (xpick_f rfl rfl) rfl rfl rfl ?_
          refine ov (xmove rfl) rfl rfl rfl ?_
          refine ov (xmove rfl) rfl rfl rfl ?_
          refine ov (xmove rfl) rfl rfl rfl ?_
          refine ov (xbneq Try.underlying4 rfl rfl) rfl rfl rfl ?_
          refine ods (fun c168 => ?_) (fun c168 => ?_)
          · exfalso; exact absurd rfl c168
          ·
            refine ov (xpick_f rfl rfl) rfl rfl rfl ?_
            refine ov (xmove rfl) rfl rfl rfl ?_
            refine ov (xmove rfl) rfl rfl rfl ?_
            refine ov (xmove rfl) rfl rfl rfl ?_
            refine ov (xneq rfl rfl _ rfl) rfl rfl rfl ?_
            refine ods (fun c173 => ?_) (fun c173 => ?_)
            · exfalso; exact absurd rfl c173
            ·
              refine ov (xpick_f rfl rfl) rfl rfl rfl ?_
              refine ov (xmove rfl) rfl rfl rfl ?_
              refine ov (xmove rfl) rfl rfl rfl ?_
              refine ov (xmove rfl) rfl rfl rfl ?_
              refine ov (xbneq Try.underlying4 rfl rfl) rfl rfl rfl ?_
              refine ods (fun c178 => ?_) (fun c178 => ?_)
              · exfalso; exact absurd rfl c178
              ·
                refine ov (xpick_f rfl rfl) rfl rfl rfl ?_
                refine ov (xmove rfl) rfl rfl rfl ?_
                refine ov (xmove rfl) rfl rfl rfl ?_
                refine ov (xmove rfl) rfl rfl rfl ?_
                refine ov (xneq rfl rfl _ rfl) rfl rfl rfl ?_
                refine ods (fun c183 => ?_) (fun c183 => ?_)
                · exfalso; exact absurd rfl c183
                ·
                  refine ov (xpick_f rfl rfl) rfl rfl rfl ?_
                  refine ov (xmove rfl) rfl rfl rfl ?_
                  refine ov (xmove rfl) rfl rfl rfl ?_
                  refine ov (xmove rfl) rfl rfl rfl ?_
                  refine ov (xneq rfl rfl _ rfl) rfl rfl rfl ?_
                  refine ods (fun c188 => ?_) (fun c188 => ?_)
                  · exfalso; exact absurd rfl c188
                  ·
                    refine ov (xpick_f rfl rfl) rfl rfl rfl ?_
                    refine ov (xmove rfl) rfl rfl rfl ?_
                    refine ov (xmove rfl) rfl rfl rfl ?_
                    refine ov (xmove rfl) rfl rfl rfl ?_
                    refine ov (xneq rfl rfl _ rfl) rfl rfl rfl ?_
                    refine ods (fun c193 => ?_) (fun c193 => ?_)
                    · exfalso; exact absurd rfl c193
                    ·
                      refine ov (xpick_f rfl rfl) rfl rfl rfl ?_
                      refine ov (xmove rfl) rfl rfl rfl ?_
                      refine ov (xmove rfl) rfl rfl rfl ?_
                      refine ov (xmove rfl) rfl rfl rfl ?_
                      refine oc (xcall Try.call39 rfl) rfl rfl rfl (likeTexts_ok _ _ _ _ _ _ _ _ (G141_0.sl) (G148_0.sl)) ?_
                      rintro _ w16 ⟨rfl, e16⟩
                      have z16 := e16.size
                      have E := E.trans e16
                      replace F54 := F54.ext e16
                      replace HF54 := HF54.ext e16
                      replace G64_0 := G64_0.ext e16
                      replace G72_0 := G72_0.ext e16
                      replace R77 := R77.ext e16
                      replace F77 := F77.ext e16
                      replace HR77 := HR77.ext e16
                      replace HF77 := HF77.ext e16
                      replace R103 := R103.ext e16
                      replace HR103 := HR103.ext e16
                      replace G141_0 := G141_0.ext e16
                      replace G148_0 := G148_0.ext e16
                      refine obs (fun c198 => ?_) (fun c198 => ?_)
                      ·
                        refine ov (xnot rfl) rfl rfl rfl ?_
                        refine ov (xpick_f rfl rfl) rfl rfl rfl ?_
                        refine ov (xmove rfl) rfl rfl rfl ?_
                        refine ov (xmove rfl) rfl rfl rfl ?_
                        refine oc (xcall Try.call17 rfl) rfl rfl rfl (AreRoles_ok _ _ _ rs103 _ (HR103).sn okR103) ?_
                        rintro _ w17 ⟨rfl, e17⟩
                        have z17 := e17.size
                        have E := E.trans e17
                        replace F54 := F54.ext e17
                        replace HF54 := HF54.ext e17
                        replace G64_0 := G64_0.ext e17
                        replace G72_0 := G72_0.ext e17
                        replace R77 := R77.ext e17
                        replace F77 := F77.ext e17
                        replace HR77 := HR77.ext e17
                        replace HF77 := HF77.ext e17
                        replace R103 := R103.ext e17
                        replace HR103 := HR103.ext e17
                        replace G141_0 := G141_0.ext e17
                        replace G148_0 := G148_0.ext e17
                        refine ov (xmove rfl) rfl rfl rfl ?_
                        refine oc (xcall Try.call15 rfl) rfl rfl rfl (sAreRoles_ok _ _ _ rs103 _ (HR103).sn okR103) ?_
                        rintro _ w18 ⟨rfl, e18⟩
                        have z18 := e18.size
                        have E := E.trans e18
                        replace F54 := F54.ext e18
                        replace HF54 := HF54.ext e18
                        replace G64_0 := G64_0.ext e18
                        replace G72_0 := G72_0.ext e18
                        replace R77 := R77.ext e18
                        replace F77 := F77.ext e18
                        replace HR77 := HR77.ext e18
                        replace HF77 := HF77.ext e18
                        replace R103 := R103.ext e18
                        replace HR103 := HR103.ext e18
                        replace G141_0 := G141_0.ext e18
                        replace G148_0 := G148_0.ext e18
                        refine ov (xbneq Try.underlying4 rfl rfl) rfl rfl rfl ?_
                        refine ods (fun c206 => ?_) (fun c206 => ?_)
                        · exfalso; exact absurd rfl c206
                        ·
                          refine ov (xpick_f rfl rfl) rfl rfl rfl ?_
                          refine ov (xmove rfl) rfl rfl rfl ?_
                          refine ov (xmove rfl) rfl rfl rfl ?_
                          refine oc (xcall Try.call22 rfl) rfl rfl rfl (AreFiles_ok _ _ _ fs54 _ (HF54).sn okF54) ?_
                          rintro _ w19 ⟨rfl, e19⟩
                          have z19 := e19.size
                          have E := E.trans e19
                          replace F54 := F54.ext e19
                          replace HF54 := HF54.ext e19
                          replace G64_0 := G64_0.ext e19
                          replace G72_0 := G72_0.ext e19
                          replace R77 := R77.ext e19
                          replace F77 := F77.ext e19
                          replace HR77 := HR77.ext e19
                          replace HF77 := HF77.ext e19
                          replace R103 := R103.ext e19
                          replace HR103 := HR103.ext e19
                          replace G141_0 := G141_0.ext e19
                          replace G148_0 := G148_0.ext e19
                          refine ov (xmove rfl) rfl rfl rfl ?_
                          refine oc (xcall Try.call20 rfl) rfl rfl rfl (sAreFiles_ok _ _ _ fs54 _ (HF54).sn okF54) ?_
                          rintro _ w20 ⟨rfl, e20⟩
                          have z20 := e20.size
                          have E := E.trans e20
                          replace F54 := F54.ext e20
                          replace HF54 := HF54.ext e20
                          replace G64_0 := G64_0.ext e20
                          replace G72_0 := G72_0.ext e20
                          replace R77 := R77.ext e20
                          replace F77 := F77.ext e20
                          replace HR77 := HR77.ext e20
                          replace HF77 := HF77.ext e20
                          replace R103 := R103.ext e20
                          replace HR103 := HR103.ext e20
                          replace G141_0 := G141_0.ext e20
                          replace G148_0 := G148_0.ext e20
                          refine ov (xbneq Try.underlying4 rfl rfl) rfl rfl rfl ?_
                          refine ods (fun c213 => ?_) (fun c213 => ?_)
                          · exfalso; exact absurd rfl c213
                          ·
                            refine ov (xpick_f rfl rfl) rfl rfl rfl ?_
                            refine ops_nil ?_
                            refine run_cond_f rfl ?_
                            refine run_skip ?_
                            refine run_join (τ := [(3, .slice p54 n54 k54), (7, .slice q64_0 m64_0 d64_0), (8, .int .i64 (sealFile fs54 b54 lv54 day54).2), (11, .slice q77 m77 d77), (12, .slice p77 n77 k77), (15, .int .i64 day77), (20, .slice q103 m103 d103), (21, .string a103), (22, .string b103), (23, .bool (isAbove rs103 a103 b103).1), (24, .int .i64 (isAbove rs103 a103 b103).2)]) (fun w_ => Ext w w_ ∧ (NS cellsRoleS 3 innRoleS strc 1 w_ q77 m77 d77 rs77 hdR77) ∧ (NS cellsFileS 4 innFileS strc 1 w_ p54 n54 k54 fs54 hdF54) ∧ (OnFileS w_ w2.heap.size w3.heap.size q64_0 m64_0 d64_0 (sealFile fs54 b54 lv54 day54).1) ∧ (NS cellsFileS 4 innFileS strc 1 w_ p77 n77 k77 fs77 hdF77) ∧ (NS cellsRoleS 3 innRoleS strc 1 w_ q103 m103 d103 rs103 hdR103)) ?_ ?_
                            · intro hJ18
                              refine run_seq ?_
                              refine run_seq ?_
                              refine run_region ?_
                              refine ov (xmove rfl) rfl rfl rfl ?_
                              refine ov (xeql rfl rfl _ rfl) rfl rfl rfl ?_
                              refine ods (fun c216 => ?_) (fun c216 => ?_)
                              ·
                                refine ov (xmove rfl) rfl rfl rfl ?_
                                refine ov (xmove rfl) rfl rfl rfl ?_
                                refine ov (xeql rfl rfl _ rfl) rfl rfl rfl ?_
                                refine ods (fun c219 => ?_) (fun c219 => ?_)
                                ·
                                  refine ov (xpick_t rfl rfl) rfl rfl rfl ?_
                                  refine ov (xmove rfl) rfl rfl rfl ?_
                                  refine ov (xmove rfl) rfl rfl rfl ?_
                                  refine ov (xmove rfl) rfl rfl rfl ?_
                                  refine ov (xmove rfl) rfl rfl rfl ?_
                                  refine ov (xgeq rfl rfl _ rfl) rfl rfl rfl ?_
                                  refine ov (xbneq Try.underlying4 rfl rfl) rfl rfl rfl ?_
                                  refine ods (fun c226 => ?_) (fun c226 => ?_)
                                  ·
                                    refine ov (xpick_t rfl rfl) rfl rfl rfl ?_
                                    refine ov (xmove rfl) rfl rfl rfl ?_
                                    refine ov (xmove rfl) rfl rfl rfl ?_
                                    refine ov (xgtr rfl rfl _ rfl) rfl rfl rfl ?_
                                    refine ods (fun c230 => ?_) (fun c230 => ?_)
                                    · exfalso; exact c226 (first_may (by omega) (by omega) (by omega))
                                    ·
                                      refine ov (xpick_t rfl rfl) rfl rfl rfl ?_
                                      refine ops_nil ?_
                                      refine run_cond_f rfl ?_
                                      refine run_skip ?_
                                      refine run_sub ?_ (hJ18 _ ⟨E, HR77, HF54, G64_0, HF77, HR103⟩)
                                      exact ⟨rfl, rfl, rfl, rfl, rfl, rfl, rfl, rfl, rfl, rfl, rfl, trivial⟩
                                  ·
                                    refine ov (xpick_t rfl rfl) rfl rfl rfl ?_
                                    refine ov (xmove rfl) rfl rfl rfl ?_
                                    refine og rfl rfl rfl ?_
                                    refine og rfl rfl rfl ?_
                                    refine ov (xpick_f rfl rfl) rfl rfl rfl ?_
                                    refine ops_nil ?_
                                    refine run_cond_f rfl ?_
                                    refine run_skip ?_
                                    refine run_sub ?_ (hJ18 _ ⟨E, HR77, HF54, G64_0, HF77, HR103⟩)
                                    exact ⟨rfl, rfl, rfl, rfl, rfl, rfl, rfl, rfl, rfl, rfl, rfl, trivial⟩
                                ·
                                  refine ov (xpick_t rfl rfl) rfl rfl rfl ?_
                                  refine ov (xmove rfl) rfl rfl rfl ?_
                                  refine og rfl rfl rfl ?_
                                  refine og rfl rfl rfl ?_
                                  refine og rfl rfl rfl ?_
                                  refine og rfl rfl rfl ?_
                                  refine og rfl rfl rfl ?_
                                  refine ov (xpick_f rfl rfl) rfl rfl rfl ?_
                                  refine ov (xmove rfl) rfl rfl rfl ?_
                                  refine og rfl rfl rfl ?_
                                  refine og rfl rfl rfl ?_
                                  refine ov (xpick_f rfl rfl) rfl rfl rfl ?_
                                  refine ops_nil ?_
                                  refine run_cond_f rfl ?_
                                  refine run_skip ?_
                                  refine run_sub ?_ (hJ18 _ ⟨E, HR77, HF54, G64_0, HF77, HR103⟩)
                                  exact ⟨rfl, rfl, rfl, rfl, rfl, rfl, rfl, rfl, rfl, rfl, rfl, trivial⟩
                              ·
                                refine ov (xmove rfl) rfl rfl rfl ?_
                                refine og rfl rfl rfl ?_
                                refine og rfl rfl rfl ?_
                                refine ov (xpick_f rfl rfl) rfl rfl rfl ?_
                                refine ov (xmove rfl) rfl rfl rfl ?_
                                refine og rfl rfl rfl ?_
                                refine og rfl rfl rfl ?_
                                refine og rfl rfl rfl ?_
                                refine og rfl rfl rfl ?_
                                refine og rfl rfl rfl ?_
                                refine ov (xpick_f rfl rfl) rfl rfl rfl ?_
                                refine ov (xmove rfl) rfl rfl rfl ?_
                                refine og rfl rfl rfl ?_
                                refine og rfl rfl rfl ?_
                                refine ov (xpick_f rfl rfl) rfl rfl rfl ?_
                                refine ops_nil ?_
                                refine run_cond_f rfl ?_
                                refine run_skip ?_
                                refine run_sub ?_ (hJ18 _ ⟨E, HR77, HF54, G64_0, HF77, HR103⟩)
                                exact ⟨rfl, rfl, rfl, rfl, rfl, rfl, rfl, rfl, rfl, rfl, rfl, trivial⟩
                            · rintro w21 ⟨E, HR77, HF54, G64_0, HF77, HR103⟩
                              have z21 := E.size
                              refine run_join (τ := [(3, .slice p54 n54 k54), (7, .slice q64_0 m64_0 d64_0), (8, .int .i64 (sealFile fs54 b54 lv54 day54).2), (11, .slice q77 m77 d77), (15, .int .i64 day77)]) (fun w_ => Ext w w_ ∧ (NS cellsRoleS 3 innRoleS strc 1 w_ q77 m77 d77 rs77 hdR77) ∧ (NS cellsFileS 4 innFileS strc 1 w_ p54 n54 k54 fs54 hdF54) ∧ (OnFileS w_ w2.heap.size w3.heap.size q64_0 m64_0 d64_0 (sealFile fs54 b54 lv54 day54).1)) ?_ ?_
                              · intro hJ20
                                refine run_seq ?_
                                refine run_seq ?_
                                refine run_region ?_
                                refine ov (xmove rfl) rfl rfl rfl ?_
                                refine ov (xeql rfl rfl _ rfl) rfl rfl rfl ?_
                                refine ods (fun c233 => ?_) (fun c233 => ?_)
                                ·
                                  refine ov (xmove rfl) rfl rfl rfl ?_
                                  refine ov (xmove rfl) rfl rfl rfl ?_
                                  refine obs (fun c235 => ?_) (fun c235 => ?_)
                                  ·
                                    refine ov (xpick_t rfl rfl) rfl rfl rfl ?_
                                    refine ops_nil ?_
                                    refine run_cond_t rfl ?_
                                    refine run_seq ?_
                                    refine run_region ?_
                                    refine ov (xmove rfl) rfl rfl rfl ?_
                                    refine ov (xmove rfl) rfl rfl rfl ?_
                                    refine ov (xmove rfl) rfl rfl rfl ?_
                                    refine ov (xmove rfl) rfl rfl rfl ?_
                                    refine oc (xcall Try.call34 rfl) rfl rfl rfl (SeenBy_ok _ _ _ rs103 _ _ _ fs77 a103 day77 _ (HR103).sn (HF77).sn okR103 okF77) ?_
                                    rintro _ w22 ⟨e22, q242_0, m242_0, d242_0, rfl, G242_0⟩
                                    have z22 := e22.size
                                    have E := E.trans e22
                                    replace HR77 := HR77.ext e22
                                    replace HF54 := HF54.ext e22
                                    replace G64_0 := G64_0.ext e22
                                    replace HF77 := HF77.ext e22
                                    replace HR103 := HR103.ext e22
                                    have lG242_0 := G242_0.len
                                    have hal242 := seenBy_len rs103 fs77 a103 day77
                                    refine ov (xmove rfl) rfl rfl rfl ?_
                                    refine ov (xextract rfl rfl) rfl rfl rfl ?_
                                    refine ov (xextract rfl rfl) rfl rfl rfl ?_
                                    refine ov (xassign rfl) rfl rfl rfl ?_
                                    refine ov (xassign rfl) rfl rfl rfl ?_
                                    refine ops_nil ?_
                                    refine run_seq ?_
                                    refine run_region ?_
                                    refine ov (xmove rfl) rfl rfl rfl ?_
                                    refine ov (xmove rfl) rfl rfl rfl ?_
                                    refine ov (xmove rfl) rfl rfl rfl ?_
                                    refine ov (xmove rfl) rfl rfl rfl ?_
                                    refine oc (xcall Try.call34 rfl) rfl rfl rfl (SeenBy_ok _ _ _ rs103 _ _ _ fs77 b103 day77 _ (HR103).sn (HF77).sn okR103 okF77) ?_
                                    rintro _ w23 ⟨e23, q250_0, m250_0, d250_0, rfl, G250_0⟩
                                    have z23 := e23.size
                                    have E := E.trans e23
                                    replace HR77 := HR77.ext e23
                                    replace HF54 := HF54.ext e23
                                    replace G64_0 := G64_0.ext e23
                                    replace HF77 := HF77.ext e23
                                    replace HR103 := HR103.ext e23
                                    replace G242_0 := G242_0.ext e23
                                    have lG250_0 := G250_0.len
                                    have hal250 := seenBy_len rs103 fs77 b103 day77
                                    refine ov (xmove rfl) rfl rfl rfl ?_
                                    refine ov (xextract rfl rfl) rfl rfl rfl ?_
                                    refine ov (xextract rfl rfl) rfl rfl rfl ?_
                                    refine ov (xassign rfl) rfl rfl rfl ?_
                                    refine ov (xassign rfl) rfl rfl rfl ?_
                                    refine ops_nil ?_
                                    refine run_seq ?_
                                    refine run_region ?_
                                    refine ov (xmove rfl) rfl rfl rfl ?_
                                    refine ov (xmove rfl) rfl rfl rfl ?_
                                    refine ov (xmove rfl) rfl rfl rfl ?_
                                    refine ov (xmove rfl) rfl rfl rfl ?_
                                    refine oc (xcall Try.call35 rfl) rfl rfl rfl (sSeenBy_ok _ _ _ rs103 _ _ _ fs77 b103 day77 _ (HR103).sn (HF77).sn okR103 okF77) ?_
                                    rintro _ w24 ⟨e24, q258_0, m258_0, d258_0, rfl, G258_0⟩
                                    have z24 := e24.size
                                    have E := E.trans e24
                                    replace HR77 := HR77.ext e24
                                    replace HF54 := HF54.ext e24
                                    replace G64_0 := G64_0.ext e24
                                    replace HF77 := HF77.ext e24
                                    replace HR103 := HR103.ext e24
                                    replace G242_0 := G242_0.ext e24
                                    replace G250_0 := G250_0.ext e24
                                    have lG258_0 := G258_0.len
                                    have hal258 := seenBy_len rs103 fs77 b103 day77
                                    refine ov (xmove rfl) rfl rfl rfl ?_
                                    refine ov (xextract rfl rfl) rfl rfl rfl ?_
                                    refine ov (xextract rfl rfl) rfl rfl rfl ?_
                                    refine ov (xassign rfl) rfl rfl rfl ?_
                                    refine ov (xassign rfl) rfl rfl rfl ?_
                                    refine ops_nil ?_
                                    refine run_seq ?_
                                    refine run_seq ?_
                                    refine run_region ?_
                                    refine ov (xmove rfl) rfl rfl rfl ?_
                                    refine ov (xmove rfl) rfl rfl rfl ?_
                                    refine ov (xneq rfl rfl _ rfl) rfl rfl rfl ?_
                                    refine ods (fun c263 => ?_) (fun c263 => ?_)
                                    · exfalso; exact absurd rfl c263
                                    ·
                                      refine ov (xmove rfl) rfl rfl rfl ?_
                                      refine ov (xmove rfl) rfl rfl rfl ?_
                                      refine ov (xmove rfl) rfl rfl rfl ?_
                                      refine oc (xcall Try.call39 rfl) rfl rfl rfl (likeTexts_ok _ _ _ _ _ _ _ _ (G250_0.sl) (G258_0.sl)) ?_
                                      rintro _ w25 ⟨rfl, e25⟩
                                      have z25 := e25.size
                                      have E := E.trans e25
                                      replace HR77 := HR77.ext e25
                                      replace HF54 := HF54.ext e25
                                      replace G64_0 := G64_0.ext e25
                                      replace HF77 := HF77.ext e25
                                      replace HR103 := HR103.ext e25
                                      replace G242_0 := G242_0.ext e25
                                      replace G250_0 := G250_0.ext e25
                                      replace G258_0 := G258_0.ext e25
                                      refine obs (fun c267 => ?_) (fun c267 => ?_)
                                      ·
                                        refine ov (xnot rfl) rfl rfl rfl ?_
                                        refine ov (xpick_f rfl rfl) rfl rfl rfl ?_
                                        refine ops_nil ?_
                                        refine run_cond_f rfl ?_
                                        refine run_skip ?_
                                        refine run_seq ?_
                                        refine run_region ?_
                                        refine ov (xassign rfl) rfl rfl rfl ?_
                                        refine ops_nil ?_
                                        refine run_block ?_
                                        refine run_loop (ι := Nat × World) (fun x_ => match x_ with | (k, wr) => (Ext w wr) ∧ (NS cellsRoleS 3 innRoleS strc 1 wr q77 m77 d77 rs77 hdR77) ∧ (NS cellsFileS 4 innFileS strc 1 wr p54 n54 k54 fs54 hdF54) ∧ (OnFileS wr w2.heap.size w3.heap.size q64_0 m64_0 d64_0 (sealFile fs54 b54 lv54 day54).1) ∧ (Ow strc 1 9 wr w21.heap.size w22.heap.size q242_0 m242_0 d242_0 (seenBy rs103 fs77 a103 day77).1) ∧ (Ow strc 1 9 wr w22.heap.size w23.heap.size q250_0 m250_0 d250_0 (seenBy rs103 fs77 b103 day77).1) ∧ (w25.heap.size ≤ wr.heap.size) ∧ (k ≤ m250_0)) (fun x_ => match x_ with | (k, wr) => [(3, .slice p54 n54 k54), (7, .slice q64_0 m64_0 d64_0), (8, .int .i64 (sealFile fs54 b54 lv54 day54).2), (11, .slice q77 m77 d77), (15, .int .i64 day77), (35, .slice q242_0 m242_0 d242_0), (36, .int .i64 (seenBy rs103 fs77 a103 day77).2), (37, .slice q250_0 m250_0 d250_0), (38, .int .i64 (seenBy rs103 fs77 b103 day77).2), (41, .int .i64 (k : Int))]) (fun x_ => match x_ with | (k, wr) => wr) (fun x_ => match x_ with | (k, wr) => m250_0 - k) ?_ (0, w25) (⟨E, HR77, HF54, G64_0, G242_0, G250_0, Nat.le_refl _, by omega⟩) ⟨rfl, rfl, rfl, rfl, rfl, rfl, rfl, rfl, rfl, rfl, trivial⟩ rfl
                                        intro i_ hI_ hback27
                                        obtain ⟨k, wr⟩ := i_
                                        obtain ⟨E, HR77, HF54, G64_0, G242_0, G250_0, lz_wr, hk⟩ := hI_
                                        try dsimp only
                                        have zr := E.size
                                        refine run_seq ?_
                                        refine run_seq ?_
                                        refine run_region ?_
                                        refine ov (xmove rfl) rfl rfl rfl ?_
                                        refine ov (xeql rfl rfl _ rfl) rfl rfl rfl ?_
                                        refine ods (fun c271 => ?_) (fun c271 => ?_)
                                        ·
                                          refine ov (xmove rfl) rfl rfl rfl ?_
                                          refine ov (xmove rfl) rfl rfl rfl ?_
                                          refine ov (xeql rfl rfl _ rfl) rfl rfl rfl ?_
                                          refine ods (fun c274 => ?_) (fun c274 => ?_)
                                          ·
                                            refine ov (xpick_t rfl rfl) rfl rfl rfl ?_
                                            refine ov (xmove rfl) rfl rfl rfl ?_
                                            refine ov (xmove rfl) rfl rfl rfl ?_
                                            refine ov (xmove rfl) rfl rfl rfl ?_
                                            refine ov (xlen Try.underlying49 rfl) rfl rfl rfl ?_
                                            refine ov (xlss rfl rfl _ rfl) rfl rfl rfl ?_
                                            refine ods (fun c280 => ?_) (fun c280 => ?_)
                                            ·
                                              refine ov (xpick_t rfl rfl) rfl rfl rfl ?_
                                              refine ops_nil ?_
                                              refine run_cond_t rfl ?_
                                              refine run_skip ?_
                                              refine run_seq ?_
                                              refine run_block ?_
                                              refine run_seq ?_
                                              refine run_region ?_
                                              refine ov (xmove rfl) rfl rfl rfl ?_
                                              refine ov (xmove rfl) rfl rfl rfl ?_
                                              refine ov (xmove rfl) rfl rfl rfl ?_
                                              have h287 := (G250_0.sl).at (i := k) (by omega)
                                              refine ov (xindexN (i := k) Try.underlying49 Try.sizeOf9 rfl rfl rfl ((G250_0.sl).p (i := k) (by omega)) (by have := (G250_0.sl).len; omega)) rfl rfl rfl ?_
                                              refine ov (v := .string (seenBy rs103 fs77 b103 day77).1[k]) (xloadz Try.isAgg9 rfl (h287) rfl) rfl rfl rfl ?_
                                              refine oc (xcall Try.call40 rfl) rfl rfl rfl (hasText_ok _ _ _ _ ((seenBy rs103 fs77 b103 day77).1[k]) _ (G242_0.sl)) ?_
                                              rintro _ w26 ⟨rfl, e26⟩
                                              have z26 := e26.size
                                              have E := E.trans e26
                                              replace HR77 := HR77.ext e26
                                              replace HF54 := HF54.ext e26
                                              replace G64_0 := G64_0.ext e26
                                              replace G242_0 := G242_0.ext e26
                                              replace G250_0 := G250_0.ext e26
                                              refine obs (fun c289 => ?_) (fun c289 => ?_)
                                              ·
                                                refine ov (xnot rfl) rfl rfl rfl ?_
                                                refine ops_nil ?_
                                                refine run_cond_f rfl ?_
                                                refine run_skip ?_
                                                refine run_inBlock ?_
                                                refine run_region ?_
                                                refine ov (xmove rfl) rfl rfl rfl ?_
                                                refine ov (xadd rfl rfl (by unfold I64; omega)) rfl rfl rfl ?_
                                                refine ov (xassign rfl) rfl rfl rfl ?_
                                                refine ops_nil ?_
                                                refine run_sub ?_ (hback27 (k + 1, w26) (⟨E, HR77, HF54, G64_0, G242_0, G250_0, by omega, by omega⟩) (by first | omega | (dsimp only; omega)))
                                                exact ⟨rfl, rfl, rfl, rfl, rfl, rfl, rfl, rfl, rfl, rfl, trivial⟩
                                              · exfalso; rw [above_sees (by omega : (isAbove rs103 a103 b103).2 = 0) c235 (by omega) (by omega) _ (List.getElem_mem _)] at c289; cases c289
                                            ·
                                              refine ov (xpick_t rfl rfl) rfl rfl rfl ?_
                                              refine ops_nil ?_
                                              refine run_cond_f rfl ?_
                                              refine run_exit rfl ?_
                                              refine run_sub ?_ (hJ20 _ ⟨E, HR77, HF54, G64_0⟩)
                                              exact ⟨rfl, rfl, rfl, rfl, rfl, trivial⟩
                                          ·
                                            refine ov (xpick_t rfl rfl) rfl rfl rfl ?_
                                            refine ov (xmove rfl) rfl rfl rfl ?_
                                            refine og rfl rfl rfl ?_
                                            refine og rfl rfl rfl ?_
                                            refine og rfl rfl rfl ?_
                                            refine og rfl rfl rfl ?_
                                            refine ov (xpick_f rfl rfl) rfl rfl rfl ?_
                                            refine ops_nil ?_
                                            refine run_cond_f rfl ?_
                                            refine run_exit rfl ?_
                                            refine run_sub ?_ (hJ20 _ ⟨E, HR77, HF54, G64_0⟩)
                                            exact ⟨rfl, rfl, rfl, rfl, rfl, trivial⟩
                                        ·
                                          refine ov (xmove rfl) rfl rfl rfl ?_
                                          refine og rfl rfl rfl ?_
                                          refine og rfl rfl rfl ?_
                                          refine ov (xpick_f rfl rfl) rfl rfl rfl ?_
                                          refine ov (xmove rfl) rfl rfl rfl ?_
                                          refine og rfl rfl rfl ?_
                                          refine og rfl rfl rfl ?_
                                          refine og rfl rfl rfl ?_
                                          refine og rfl rfl rfl ?_
                                          refine ov (xpick_f rfl rfl) rfl rfl rfl ?_
                                          refine ops_nil ?_
                                          refine run_cond_f rfl ?_
                                          refine run_exit rfl ?_
                                          refine run_sub ?_ (hJ20 _ ⟨E, HR77, HF54, G64_0⟩)
                                          exact ⟨rfl, rfl, rfl, rfl, rfl, trivial⟩
                                      · exfalso; cases c267
                                  ·
                                    refine ov (xpick_t rfl rfl) rfl rfl rfl ?_
                                    refine ops_nil ?_
                                    refine run_cond_f rfl ?_
                                    refine run_skip ?_
                                    refine run_sub ?_ (hJ20 _ ⟨E, HR77, HF54, G64_0⟩)
                                    exact ⟨rfl, rfl, rfl, rfl, rfl, trivial⟩
                                ·
                                  refine ov (xmove rfl) rfl rfl rfl ?_
                                  refine og rfl rfl rfl ?_
                                  refine ov (xpick_f rfl rfl) rfl rfl rfl ?_
                                  refine ops_nil ?_
                                  refine run_cond_f rfl ?_
                                  refine run_skip ?_
                                  refine run_sub ?_ (hJ20 _ ⟨E, HR77, HF54, G64_0⟩)
                                  exact ⟨rfl, rfl, rfl, rfl, rfl, trivial⟩
                              · rintro w22 ⟨E, HR77, HF54, G64_0⟩
                                have z22 := E.size
                                refine run_seq ?_
                                refine run_seq ?_
                                refine run_region ?_
                                refine ov (xassign rfl) rfl rfl rfl ?_
                                refine ops_nil ?_
                                refine run_block ?_
                                refine run_loop (ι := Nat × World) (fun x_ => match x_ with | (i, wr) => (Ext w wr) ∧ (NS cellsRoleS 3 innRoleS strc 1 wr q77 m77 d77 rs77 hdR77) ∧ (NS cellsFileS 4 innFileS strc 1 wr p54 n54 k54 fs54 hdF54) ∧ (OnFileS wr w2.heap.size w3.heap.size q64_0 m64_0 d64_0 (sealFile fs54 b54 lv54 day54).1) ∧ (w22.heap.size ≤ wr.heap.size) ∧ (i ≤ m77)) (fun x_ => match x_ with | (i, wr) => [(3, .slice p54 n54 k54), (7, .slice q64_0 m64_0 d64_0), (8, .int .i64 (sealFile fs54 b54 lv54 day54).2), (11, .slice q77 m77 d77), (15, .int .i64 day77), (42, .int .i64 (i : Int))]) (fun x_ => match x_ with | (i, wr) => wr) (fun x_ => match x_ with | (i, wr) => m77 - i) ?_ (0, w22) (⟨E, HR77, HF54, G64_0, Nat.le_refl _, by omega⟩) ⟨rfl, rfl, rfl, rfl, rfl, rfl, trivial⟩ rfl
                                intro i_ hI_ hback32
                                obtain ⟨i, wr⟩ := i_
                                obtain ⟨E, HR77, HF54, G64_0, lz_wr, hi⟩ := hI_
                                try dsimp only
                                have zr := E.size
                                refine run_seq ?_
                                refine run_seq ?_
                                refine run_region ?_
                                refine ov (xmove rfl) rfl rfl rfl ?_
                                refine ov (xeql rfl rfl _ rfl) rfl rfl rfl ?_
                                refine ods (fun c292 => ?_) (fun c292 => ?_)
                                ·
                                  refine ov (xmove rfl) rfl rfl rfl ?_
                                  refine ov (xmove rfl) rfl rfl rfl ?_
                                  refine ov (xmove rfl) rfl rfl rfl ?_
                                  refine ov (xlen Try.underlying25 rfl) rfl rfl rfl ?_
                                  refine ov (xlss rfl rfl _ rfl) rfl rfl rfl ?_
                                  refine ods (fun c297 => ?_) (fun c297 => ?_)
                                  ·
                                    refine ov (xpick_t rfl rfl) rfl rfl rfl ?_
                                    refine ops_nil ?_
                                    refine run_cond_t rfl ?_
                                    refine run_skip ?_
                                    refine run_seq ?_
                                    refine run_block ?_
                                    refine run_seq ?_
                                    refine run_region ?_
                                    refine ov (xmove rfl) rfl rfl rfl ?_
                                    refine ov (xmove rfl) rfl rfl rfl ?_
                                    refine ov (xmove rfl) rfl rfl rfl ?_
                                    refine ov (xmove rfl) rfl rfl rfl ?_
                                    have h306 := (HR77).at (i := i) (by omega)
                                    refine ov (xindexN (i := i) Try.underlying25 Try.sizeOf71 rfl rfl rfl ((HR77).p (i := i) (by omega)) (by have := (HR77).len; omega)) rfl rfl rfl ?_
                                    refine ov (xfieldAddr fo71f0 rfl) rfl rfl rfl ?_
                                    refine ov (v := .string rs77[i].Name) (xload1 Try.isAgg9 rfl (h306) rfl) rfl rfl rfl ?_
                                    refine ov (xmove rfl) rfl rfl rfl ?_
                                    refine oc (xcall Try.call34 rfl) rfl rfl rfl (SeenBy_ok _ _ _ rs77 _ _ _ fs54 rs77[i].Name day77 _ (HR77).sn (HF54).sn okR77 okF54) ?_
                                    rintro _ w23 ⟨e23, q310_0, m310_0, d310_0, rfl, G310_0⟩
                                    have z23 := e23.size
                                    have E := E.trans e23
                                    replace HR77 := HR77.ext e23
                                    replace HF54 := HF54.ext e23
                                    replace G64_0 := G64_0.ext e23
                                    have lG310_0 := G310_0.len
                                    have hal310 := seenBy_len rs77 fs54 rs77[i].Name day77
                                    refine ov (xmove rfl) rfl rfl rfl ?_
                                    refine ov (xextract rfl rfl) rfl rfl rfl ?_
                                    refine ov (xextract rfl rfl) rfl rfl rfl ?_
                                    refine ov (xassign rfl) rfl rfl rfl ?_
                                    refine ov (xassign rfl) rfl rfl rfl ?_
                                    refine ops_nil ?_
                                    refine run_seq ?_
                                    refine run_region ?_
                                    refine ov (xmove rfl) rfl rfl rfl ?_
                                    refine ov (xmove rfl) rfl rfl rfl ?_
                                    refine ov (xmove rfl) rfl rfl rfl ?_
                                    refine ov (xmove rfl) rfl rfl rfl ?_
                                    have h318 := (HR77).at (i := i) (by omega)
                                    refine ov (xindexN (i := i) Try.underlying25 Try.sizeOf71 rfl rfl rfl ((HR77).p (i := i) (by omega)) (by have := (HR77).len; omega)) rfl rfl rfl ?_
                                    refine ov (xfieldAddr fo71f0 rfl) rfl rfl rfl ?_
                                    refine ov (v := .string rs77[i].Name) (xload1 Try.isAgg9 rfl (h318) rfl) rfl rfl rfl ?_
                                    refine ov (xmove rfl) rfl rfl rfl ?_
                                    refine oc (xcall Try.call34 rfl) rfl rfl rfl (SeenBy_ok _ _ _ rs77 _ _ _ (sealFile fs54 b54 lv54 day54).1 rs77[i].Name day77 _ (HR77).sn (G64_0.sl).sn okR77 okS) ?_
                                    rintro _ w24 ⟨e24, q322_0, m322_0, d322_0, rfl, G322_0⟩
                                    have z24 := e24.size
                                    have E := E.trans e24
                                    replace HR77 := HR77.ext e24
                                    replace HF54 := HF54.ext e24
                                    replace G64_0 := G64_0.ext e24
                                    replace G310_0 := G310_0.ext e24
                                    have lG322_0 := G322_0.len
                                    have hal322 := seenBy_len rs77 (sealFile fs54 b54 lv54 day54).1 rs77[i].Name day77
                                    refine ov (xmove rfl) rfl rfl rfl ?_
                                    refine ov (xextract rfl rfl) rfl rfl rfl ?_
                                    refine ov (xextract rfl rfl) rfl rfl rfl ?_
                                    refine ov (xassign rfl) rfl rfl rfl ?_
                                    refine ov (xassign rfl) rfl rfl rfl ?_
                                    refine ops_nil ?_
                                    refine run_seq ?_
                                    refine run_region ?_
                                    refine ov (xmove rfl) rfl rfl rfl ?_
                                    refine ov (xmove rfl) rfl rfl rfl ?_
                                    refine ov (xmove rfl) rfl rfl rfl ?_
                                    refine ov (xmove rfl) rfl rfl rfl ?_
                                    have h330 := (HR77).at (i := i) (by omega)
                                    refine ov (xindexN (i := i) Try.underlying25 Try.sizeOf71 rfl rfl rfl ((HR77).p (i := i) (by omega)) (by have := (HR77).len; omega)) rfl rfl rfl ?_
                                    refine ov (xfieldAddr fo71f0 rfl) rfl rfl rfl ?_
                                    refine ov (v := .string rs77[i].Name) (xload1 Try.isAgg9 rfl (h330) rfl) rfl rfl rfl ?_
                                    refine ov (xmove rfl) rfl rfl rfl ?_
                                    refine oc (xcall Try.call35 rfl) rfl rfl rfl (sSeenBy_ok _ _ _ rs77 _ _ _ (sealFile fs54 b54 lv54 day54).1 rs77[i].Name day77 _ (HR77).sn (G64_0.sl).sn okR77 okS) ?_
                                    rintro _ w25 ⟨e25, q334_0, m334_0, d334_0, rfl, G334_0⟩
                                    have z25 := e25.size
                                    have E := E.trans e25
                                    replace HR77 := HR77.ext e25
                                    replace HF54 := HF54.ext e25
                                    replace G64_0 := G64_0.ext e25
                                    replace G310_0 := G310_0.ext e25
                                    replace G322_0 := G322_0.ext e25
                                    have lG334_0 := G334_0.len
                                    have hal334 := seenBy_len rs77 (sealFile fs54 b54 lv54 day54).1 rs77[i].Name day77
                                    refine ov (xmove rfl) rfl rfl rfl ?_
                                    refine ov (xextract rfl rfl) rfl rfl rfl ?_
                                    refine ov (xextract rfl rfl) rfl rfl rfl ?_
                                    refine ov (xassign rfl) rfl rfl rfl ?_
                                    refine ov (xassign rfl) rfl rfl rfl ?_
                                    refine ops_nil ?_
                                    refine run_seq ?_
                                    refine run_seq ?_
                                    refine run_region ?_
                                    refine ov (xmove rfl) rfl rfl rfl ?_
                                    refine ov (xmove rfl) rfl rfl rfl ?_
                                    refine ov (xneq rfl rfl _ rfl) rfl rfl rfl ?_
                                    refine ods (fun c339 => ?_) (fun c339 => ?_)
                                    · exfalso; exact absurd rfl c339
                                    ·
                                      refine ov (xmove rfl) rfl rfl rfl ?_
                                      refine ov (xmove rfl) rfl rfl rfl ?_
                                      refine ov (xmove rfl) rfl rfl rfl ?_
                                      refine oc (xcall Try.call39 rfl) rfl rfl rfl (likeTexts_ok _ _ _ _ _ _ _ _ (G322_0.sl) (G334_0.sl)) ?_
                                      rintro _ w26 ⟨rfl, e26⟩
                                      have z26 := e26.size
                                      have E := E.trans e26
                                      replace HR77 := HR77.ext e26
                                      replace HF54 := HF54.ext e26
                                      replace G64_0 := G64_0.ext e26
                                      replace G310_0 := G310_0.ext e26
                                      replace G322_0 := G322_0.ext e26
                                      replace G334_0 := G334_0.ext e26
                                      refine obs (fun c343 => ?_) (fun c343 => ?_)
                                      ·
                                        refine ov (xnot rfl) rfl rfl rfl ?_
                                        refine ov (xpick_f rfl rfl) rfl rfl rfl ?_
                                        refine ops_nil ?_
                                        refine run_cond_f rfl ?_
                                        refine run_skip ?_
                                        refine run_seq ?_
                                        refine run_region ?_
                                        refine ov (xassign rfl) rfl rfl rfl ?_
                                        refine ops_nil ?_
                                        refine run_block ?_
                                        refine run_loop (ι := Nat × World) (fun x_ => match x_ with | (k, wr2) => (Ext w wr2) ∧ (NS cellsRoleS 3 innRoleS strc 1 wr2 q77 m77 d77 rs77 hdR77) ∧ (NS cellsFileS 4 innFileS strc 1 wr2 p54 n54 k54 fs54 hdF54) ∧ (OnFileS wr2 w2.heap.size w3.heap.size q64_0 m64_0 d64_0 (sealFile fs54 b54 lv54 day54).1) ∧ (Ow strc 1 9 wr2 wr.heap.size w23.heap.size q310_0 m310_0 d310_0 (seenBy rs77 fs54 rs77[i].Name day77).1) ∧ (Ow strc 1 9 wr2 w23.heap.size w24.heap.size q322_0 m322_0 d322_0 (seenBy rs77 (sealFile fs54 b54 lv54 day54).1 rs77[i].Name day77).1) ∧ (w26.heap.size ≤ wr2.heap.size) ∧ (k ≤ m322_0)) (fun x_ => match x_ with | (k, wr2) => [(3, .slice p54 n54 k54), (7, .slice q64_0 m64_0 d64_0), (8, .int .i64 (sealFile fs54 b54 lv54 day54).2), (11, .slice q77 m77 d77), (15, .int .i64 day77), (42, .int .i64 (i : Int)), (43, .slice q310_0 m310_0 d310_0), (44, .int .i64 (seenBy rs77 fs54 rs77[i].Name day77).2), (45, .slice q322_0 m322_0 d322_0), (46, .int .i64 (seenBy rs77 (sealFile fs54 b54 lv54 day54).1 rs77[i].Name day77).2), (49, .int .i64 (k : Int))]) (fun x_ => match x_ with | (k, wr2) => wr2) (fun x_ => match x_ with | (k, wr2) => m322_0 - k) ?_ (0, w26) (⟨E, HR77, HF54, G64_0, G310_0, G322_0, Nat.le_refl _, by omega⟩) ⟨rfl, rfl, rfl, rfl, rfl, rfl, rfl, rfl, rfl, rfl, rfl, trivial⟩ rfl
                                        intro i_ hI_ hback40
                                        obtain ⟨k, wr2⟩ := i_
                                        obtain ⟨E, HR77, HF54, G64_0, G310_0, G322_0, lz_wr2, hk⟩ := hI_
                                        try dsimp only
                                        have zr := E.size
                                        refine run_seq ?_
                                        refine run_seq ?_
                                        refine run_region ?_
                                        refine ov (xmove rfl) rfl rfl rfl ?_
                                        refine ov (xeql rfl rfl _ rfl) rfl rfl rfl ?_
                                        refine ods (fun c347 => ?_) (fun c347 => ?_)
                                        ·
                                          obtain ⟨ss1, ss2⟩ := seal_sees (nm := rs77[i].Name) (day := day77) (by omega : (sealFile fs54 b54 lv54 day54).2 = 0) (by omega : (seenBy rs77 fs54 rs77[i].Name day77).2 = 0)
                                          refine ov (xmove rfl) rfl rfl rfl ?_
                                          refine ov (xmove rfl) rfl rfl rfl ?_
                                          refine ov (xmove rfl) rfl rfl rfl ?_
                                          refine ov (xlen Try.underlying49 rfl) rfl rfl rfl ?_
                                          refine ov (xlss rfl rfl _ rfl) rfl rfl rfl ?_
                                          refine ods (fun c352 => ?_) (fun c352 => ?_)
                                          ·
                                            refine ov (xpick_t rfl rfl) rfl rfl rfl ?_
                                            refine ops_nil ?_
                                            refine run_cond_t rfl ?_
                                            refine run_skip ?_
                                            refine run_seq ?_
                                            refine run_block ?_
                                            refine run_seq ?_
                                            refine run_region ?_
                                            refine ov (xmove rfl) rfl rfl rfl ?_
                                            refine ov (xneq rfl rfl _ rfl) rfl rfl rfl ?_
                                            refine ods (fun c357 => ?_) (fun c357 => ?_)
                                            · exfalso; exact c357 ss1
                                            ·
                                              refine ov (xmove rfl) rfl rfl rfl ?_
                                              refine ov (xmove rfl) rfl rfl rfl ?_
                                              refine ov (xmove rfl) rfl rfl rfl ?_
                                              refine ov (xmove rfl) rfl rfl rfl ?_
                                              have h362 := (G322_0.sl).at (i := k) (by omega)
                                              refine ov (xindexN (i := k) Try.underlying49 Try.sizeOf9 rfl rfl rfl ((G322_0.sl).p (i := k) (by omega)) (by have := (G322_0.sl).len; omega)) rfl rfl rfl ?_
                                              refine ov (v := .string (seenBy rs77 (sealFile fs54 b54 lv54 day54).1 rs77[i].Name day77).1[k]) (xloadz Try.isAgg9 rfl (h362) rfl) rfl rfl rfl ?_
                                              refine oc (xcall Try.call40 rfl) rfl rfl rfl (hasText_ok _ _ _ _ ((seenBy rs77 (sealFile fs54 b54 lv54 day54).1 rs77[i].Name day77).1[k]) _ (G310_0.sl)) ?_
                                              rintro _ w27 ⟨rfl, e27⟩
                                              have z27 := e27.size
                                              have E := E.trans e27
                                              replace HR77 := HR77.ext e27
                                              replace HF54 := HF54.ext e27
                                              replace G64_0 := G64_0.ext e27
                                              replace G310_0 := G310_0.ext e27
                                              replace G322_0 := G322_0.ext e27
                                              refine obs (fun c364 => ?_) (fun c364 => ?_)
                                              ·
                                                refine ov (xnot rfl) rfl rfl rfl ?_
                                                refine ov (xpick_f rfl rfl) rfl rfl rfl ?_
                                                refine ops_nil ?_
                                                refine run_cond_f rfl ?_
                                                refine run_skip ?_
                                                refine run_inBlock ?_
                                                refine run_region ?_
                                                refine ov (xmove rfl) rfl rfl rfl ?_
                                                refine ov (xadd rfl rfl (by unfold I64; omega)) rfl rfl rfl ?_
                                                refine ov (xassign rfl) rfl rfl rfl ?_
                                                refine ops_nil ?_
                                                refine run_sub ?_ (hback40 (k + 1, w27) (⟨E, HR77, HF54, G64_0, G310_0, G322_0, by omega, by omega⟩) (by first | omega | (dsimp only; omega)))
                                                exact ⟨rfl, rfl, rfl, rfl, rfl, rfl, rfl, rfl, rfl, rfl, rfl, trivial⟩
                                              · exfalso; rw [ss2 _ (List.getElem_mem _)] at c364; cases c364
                                          ·
                                            refine ov (xpick_t rfl rfl) rfl rfl rfl ?_
                                            refine ops_nil ?_
                                            refine run_cond_f rfl ?_
                                            refine run_exit rfl ?_
                                            refine run_inBlock ?_
                                            refine run_region ?_
                                            refine ov (xmove rfl) rfl rfl rfl ?_
                                            refine ov (xadd rfl rfl (by unfold I64; omega)) rfl rfl rfl ?_
                                            refine ov (xassign rfl) rfl rfl rfl ?_
                                            refine ops_nil ?_
                                            refine run_sub ?_ (hback32 (i + 1, wr2) (⟨E, HR77, HF54, G64_0, by omega, by omega⟩) (by first | omega | (dsimp only; omega)))
                                            exact ⟨rfl, rfl, rfl, rfl, rfl, rfl, trivial⟩
                                        ·
                                          refine ov (xmove rfl) rfl rfl rfl ?_
                                          refine og rfl rfl rfl ?_
                                          refine og rfl rfl rfl ?_
                                          refine og rfl rfl rfl ?_
                                          refine og rfl rfl rfl ?_
                                          refine ov (xpick_f rfl rfl) rfl rfl rfl ?_
                                          refine ops_nil ?_
                                          refine run_cond_f rfl ?_
                                          refine run_exit rfl ?_
                                          refine run_inBlock ?_
                                          refine run_region ?_
                                          refine ov (xmove rfl) rfl rfl rfl ?_
                                          refine ov (xadd rfl rfl (by unfold I64; omega)) rfl rfl rfl ?_
                                          refine ov (xassign rfl) rfl rfl rfl ?_
                                          refine ops_nil ?_
                                          refine run_sub ?_ (hback32 (i + 1, wr2) (⟨E, HR77, HF54, G64_0, by omega, by omega⟩) (by first | omega | (dsimp only; omega)))
                                          exact ⟨rfl, rfl, rfl, rfl, rfl, rfl, trivial⟩
                                      · exfalso; cases c343
                                  ·
                                    refine ov (xpick_t rfl rfl) rfl rfl rfl ?_
                                    refine ops_nil ?_
                                    refine run_cond_f rfl ?_
                                    refine run_exit rfl ?_
                                    refine run_seq ?_
                                    refine run_region ?_
                                    refine ov (xassign rfl) rfl rfl rfl ?_
                                    refine ops_nil ?_
                                    refine run_ret Try.func13 (res1 rfl rfl) ?_
                                    exact ⟨_, rfl, rfl, E⟩
                                ·
                                  refine ov (xmove rfl) rfl rfl rfl ?_
                                  refine og rfl rfl rfl ?_
                                  refine og rfl rfl rfl ?_
                                  refine og rfl rfl rfl ?_
                                  refine og rfl rfl rfl ?_
                                  refine ov (xpick_f rfl rfl) rfl rfl rfl ?_
                                  refine ops_nil ?_
                                  refine run_cond_f rfl ?_
                                  refine run_exit rfl ?_
                                  refine run_seq ?_
                                  refine run_region ?_
                                  refine ov (xassign rfl) rfl rfl rfl ?_
                                  refine ops_nil ?_
                                  refine run_ret Try.func13 (res1 rfl rfl) ?_
                                  exact ⟨_, rfl, rfl, E⟩
                      · exfalso; cases c198
      · exfalso; cases c157
end Go.Proofs.Ytbihpggbabmebaa
