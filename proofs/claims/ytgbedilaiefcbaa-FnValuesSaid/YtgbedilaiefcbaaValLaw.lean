/-
  A value that is set is found. No condition beyond those written in each theorem.
-/
import Derived.Test.YtgbedilaiefcbaaValNe
import Derived.Test.YtgbedilaiefcbaaVals2
namespace Go.Proofs.Ytgbedilaiefcbaa
open Go.RowKit
set_option linter.unusedVariables false
set_option linter.unusedSimpArgs false
set_option linter.unusedSectionVars false
set_option maxRecDepth 4000

theorem setValue_zero {xs : List Val} {v : Val} (h : (setValue xs v).2 = 0) : (setValue xs v).1 = setV xs v ∧ areValues (setV xs v) = true := by
  unfold setValue at h ⊢
  split at h
  · cases h
  · split at h
    · cases h
    · rename_i h1 h2
      rw [if_neg h1, if_neg h2]
      exact ⟨rfl, by simpa using h2⟩
theorem value_at {ys : List Val} {i : Nat} (h : areValues ys = true) (hi : i < ys.length) : valueOf ys ys[i].Name = (ys[i].Text, 0) := by
  have hp : valP ys i ys[i] = true := by
    simp only [areValues, Bool.and_eq_true] at h
    have := allB_iff.1 h.1 i hi
    rwa [allI_of hi] at this
  have h1 : (ys.take i).any (sameName ys[i]) = false := by
    simp only [valP, Bool.and_eq_true, Bool.not_eq_true'] at hp
    exact hp.2
  have h2 := (findV_first hi).2 h1
  rw [valueOf, if_neg (by simp [h]), h2, if_neg (by omega), getVal_eq (by simpa using hi)]
  simp only [Int.toNat_natCast]
theorem value_set {xs : List Val} {v : Val} (h : areValues (setV xs v) = true) : valueOf (setV xs v) v.Name = (v.Text, 0) := by
  have hf := findV_lt xs v.Name
  have key : ∃ i, ∃ hi : i < (setV xs v).length, (setV xs v)[i] = v := by
    unfold setV
    split
    · exact ⟨xs.length, by simp, by simp⟩
    · exact ⟨(findV xs v.Name).toNat, by rw [List.length_set]; omega, by simp⟩
  obtain ⟨i, hi, e⟩ := key
  have := value_at h hi
  rwa [e] at this

set_option maxHeartbeats 400000 in
theorem likeValues_ok (p q : Option Addr) (n c m d : Nat) (xs : List Val) (w : World) (H : Sl Val.cells 2 w p n c xs) (K : Sl Val.cells 2 w q m d xs) : Ret Try.prog 27 [.slice p n c, .slice q m d] w (Pv w (.bool true)) := by
  refine ret_of_run (N := 26) Try.func27 rfl rfl rfl ?_
  have hn := H.len
  have hm := K.len
  have hn6 := H.n64
  have E : Ext w w := Ext.refl w
  refine run_seq ?_
  refine run_region ?_
  refine ov (xassign rfl) rfl rfl rfl ?_
  refine ops_nil ?_
  refine run_seq ?_
  refine run_seq ?_
  refine run_region ?_
  refine ov (xmove rfl) rfl rfl rfl ?_
  refine ov (xlen Try.underlying25 rfl) rfl rfl rfl ?_
  refine ov (xmove rfl) rfl rfl rfl ?_
  refine ov (xlen Try.underlying25 rfl) rfl rfl rfl ?_
  refine ov (xneq rfl rfl _ rfl) rfl rfl rfl ?_
  refine ods (fun c10 => ?_) (fun c10 => ?_)
  · exfalso; omega
  ·
    refine ops_nil ?_
    refine run_cond_f rfl ?_
    refine run_skip ?_
    refine run_seq ?_
    refine run_seq ?_
    refine run_region ?_
    refine ov (xassign rfl) rfl rfl rfl ?_
    refine ops_nil ?_
    refine run_block ?_
    refine run_loop (ι := Nat × World) (fun x_ => match x_ with | (k, wr) => (Ext w wr) ∧ (w.heap.size ≤ wr.heap.size) ∧ (k ≤ n)) (fun x_ => match x_ with | (k, wr) => [(0, .slice p n c), (1, .slice q m d), (5, .int .i64 (k : Int))]) (fun x_ => match x_ with | (k, wr) => wr) (fun x_ => match x_ with | (k, wr) => n - k) ?_ (0, w) (⟨E, Nat.le_refl _, by omega⟩) ⟨rfl, rfl, rfl, trivial⟩ rfl
    intro i_ hI_ hback4
    obtain ⟨k, wr⟩ := i_
    obtain ⟨E, lz_wr, hk⟩ := hI_
    try dsimp only
    have zr := E.size
    refine run_seq ?_
    refine run_seq ?_
    refine run_region ?_
    refine ov (xmove rfl) rfl rfl rfl ?_
    refine ov (xmove rfl) rfl rfl rfl ?_
    refine ov (xlen Try.underlying25 rfl) rfl rfl rfl ?_
    refine ov (xlss rfl rfl _ rfl) rfl rfl rfl ?_
    refine ods (fun c14 => ?_) (fun c14 => ?_)
    ·
      refine ops_nil ?_
      refine run_cond_t rfl ?_
      refine run_skip ?_
      refine run_seq ?_
      refine run_block ?_
      refine run_seq ?_
      refine run_draw (by kernel_rfl) (by kernel_rfl) ?_
      refine qv (fun w' x_ => xmove rfl) rfl rfl rfl ?_
      refine qv (fun w' x_ => xmove rfl) rfl rfl rfl ?_
      have h19 := (H.ext E).at (i := k) (by omega)
      refine qv (fun w' x_ => xindexN (i := k) Try.underlying25 Try.sizeOf37 rfl rfl rfl ((H.ext E).p (i := k) (by omega)) (by have := (H.ext E).len; omega)) rfl rfl rfl ?_
      refine qv (v := .agg #[.string xs[k].Name, .string xs[k].Text]) (fun w' x_ => xloadN Try.isAgg37 Try.sizeOf37 rfl ((h19).ext x_) rfl) rfl rfl rfl ?_
      refine qv (fun w' x_ => xmove rfl) rfl rfl rfl ?_
      refine qv (fun w' x_ => xmove rfl) rfl rfl rfl ?_
      have h23 := (K.ext E).at (i := k) (by omega)
      refine qv (fun w' x_ => xindexN (i := k) Try.underlying25 Try.sizeOf37 rfl rfl rfl ((K.ext E).p (i := k) (by omega)) (by have := (K.ext E).len; omega)) rfl rfl rfl ?_
      refine qv (v := .agg #[.string xs[k].Name, .string xs[k].Text]) (fun w' x_ => xloadN Try.isAgg37 Try.sizeOf37 rfl ((h23).ext x_) rfl) rfl rfl rfl ?_
      refine qv (fun w' x_ => xneq37 rfl rfl) rfl rfl rfl ?_
      refine qds (fun c25 => ?_) (fun c25 => ?_)
      · exfalso; omega
      ·
        refine q_nil ?_
        intro w1 e1
        have z1 := e1.size
        have E := E.trans e1
        refine run_cond_f rfl ?_
        refine run_skip ?_
        refine run_inBlock ?_
        refine run_region ?_
        refine ov (xmove rfl) rfl rfl rfl ?_
        refine ov (xadd rfl rfl (by unfold I64; omega)) rfl rfl rfl ?_
        refine ov (xassign rfl) rfl rfl rfl ?_
        refine ops_nil ?_
        refine run_sub ?_ (hback4 (k + 1, w1) (⟨E, by omega, by omega⟩) (by first | omega | (dsimp only; omega)))
        exact ⟨rfl, rfl, rfl, trivial⟩
    ·
      refine ops_nil ?_
      refine run_cond_f rfl ?_
      refine run_exit rfl ?_
      refine run_seq ?_
      refine run_region ?_
      refine ov (xassign rfl) rfl rfl rfl ?_
      refine ops_nil ?_
      refine run_ret Try.func27 (res1 rfl rfl) ?_
      exact ⟨_, rfl, rfl, E⟩

set_option maxHeartbeats 2000000 in
theorem FnValues_ok (p : Option Addr) (n c : Nat) (bs : List Int) (w : World) (H : Sl u8c 1 w p n c bs) (hbs : ∀ x ∈ bs, 0 ≤ x ∧ x ≤ 255) : Ret Try.prog 6 [.slice p n c] w (Pv w (.bool true)) := by
  refine ret_of_run (N := 100) Try.func6 rfl rfl rfl ?_
  have hn := H.len
  have E : Ext w w := Ext.refl w
  refine run_seq ?_
  refine run_region ?_
  refine ov (xassign rfl) rfl rfl rfl ?_
  refine ops_nil ?_
  refine run_seq ?_
  refine run_seq ?_
  refine run_region ?_
  refine ov (xmove rfl) rfl rfl rfl ?_
  refine oc (xcall Try.call24 rfl) rfl rfl rfl (big_ok _ _ _ _ _ (H.ext E)) ?_
  rintro _ w1 ⟨rfl, e1⟩
  have z1 := e1.size
  have E := E.trans e1
  refine obs (fun c18 => ?_) (fun c18 => ?_)
  ·
    refine ops_nil ?_
    refine run_cond_t rfl ?_
    refine run_seq ?_
    refine run_region ?_
    refine ov (xassign rfl) rfl rfl rfl ?_
    refine ops_nil ?_
    refine run_ret Try.func6 (res1 rfl rfl) ?_
    exact ⟨_, rfl, rfl, E⟩
  ·
    refine ops_nil ?_
    refine run_cond_f rfl ?_
    refine run_skip ?_
    refine run_seq ?_
    refine run_region ?_
    refine ov (xmove rfl) rfl rfl rfl ?_
    refine oc (xcall Try.call25 rfl) rfl rfl rfl (DrawSetValue_ok _ _ _ _ _ (H.ext E) (by assumption)) ?_
    rintro _ w2 ⟨e2, xs21, q21, m21, d21, r21, rfl, ok21, hm21, G21, hr21⟩
    have z2 := e2.size
    have E := E.trans e2
    refine ov (xmove rfl) rfl rfl rfl ?_
    refine ov (xextract rfl rfl) rfl rfl rfl ?_
    refine ov (xextract rfl rfl) rfl rfl rfl ?_
    refine oalloc Try.zeroValue37 rfl rfl ?_
    intro b3 w3 e3 hb3 hz3 O3
    have E := E.trans e3
    replace G21 := G21.ext e3
    replace O3 : Own w3 b3 [.string ⟨#[]⟩, .string ⟨#[]⟩] 37 := O3
    refine ov (xassign rfl) rfl rfl rfl ?_
    refine ostoreN (vs := _) Try.sizeOf37 rfl rfl O3 rfl (by simp) (by simp [Value.oneCell']) rfl ?_
    intro w4 on4 O4
    have hz4 := on4.size
    have E := on4.ext E (by omega)
    replace G21 := G21.only on4 (by omega)
    replace O4 : Own w4 b3 [.string r21.Name, .string r21.Text] 37 := O4
    refine ops_nil ?_
    refine run_seq ?_
    refine run_region ?_
    refine ov (xmove rfl) rfl rfl rfl ?_
    refine ov (v := .agg #[.string r21.Name, .string r21.Text]) (xloadN Try.isAgg37 Try.sizeOf37 rfl (O4.cells) rfl) rfl rfl rfl ?_
    refine oc (xcall Try.call21 rfl) rfl rfl rfl (SetValue_ok _ _ _ xs21 r21 _ (G21.sl) ok21 hr21 (ow_nil G21)) ?_
    rintro _ w5 ⟨e5, q27_0, m27_0, d27_0, rfl, G27_0⟩
    have z5 := e5.size
    have E := E.trans e5
    replace G21 := G21.ext e5
    replace O4 := O4.ext e5
    have lG27_0 := G27_0.len
    refine ov (xmove rfl) rfl rfl rfl ?_
    refine ov (xextract rfl rfl) rfl rfl rfl ?_
    refine ov (xextract rfl rfl) rfl rfl rfl ?_
    refine ov (xassign rfl) rfl rfl rfl ?_
    refine ov (xassign rfl) rfl rfl rfl ?_
    refine ops_nil ?_
    refine run_seq ?_
    refine run_region ?_
    refine ov (xmove rfl) rfl rfl rfl ?_
    refine ov (v := .agg #[.string r21.Name, .string r21.Text]) (xloadN Try.isAgg37 Try.sizeOf37 rfl (O4.cells) rfl) rfl rfl rfl ?_
    refine oc (xcall Try.call19 rfl) rfl rfl rfl (sSetValue_ok _ _ _ xs21 r21 _ (G21.sl) ok21 hr21 (ow_nil G21)) ?_
    rintro _ w6 ⟨e6, q33_0, m33_0, d33_0, rfl, G33_0⟩
    have z6 := e6.size
    have E := E.trans e6
    replace G21 := G21.ext e6
    replace G27_0 := G27_0.ext e6
    replace O4 := O4.ext e6
    have lG33_0 := G33_0.len
    refine ov (xmove rfl) rfl rfl rfl ?_
    refine ov (xextract rfl rfl) rfl rfl rfl ?_
    refine ov (xextract rfl rfl) rfl rfl rfl ?_
    refine ov (xassign rfl) rfl rfl rfl ?_
    refine ov (xassign rfl) rfl rfl rfl ?_
    refine ops_nil ?_
    refine run_seq ?_
    refine run_region ?_
    refine ov (xmove rfl) rfl rfl rfl ?_
    refine oc (xcall Try.call26 rfl) rfl rfl rfl (DrawValueOf_ok _ _ _ _ _ (H.ext E) (by assumption)) ?_
    rintro _ w7 ⟨e7, xs38, q38, m38, d38, s38, rfl, ok38, hm38, G38, hs38⟩
    have z7 := e7.size
    have E := E.trans e7
    replace G21 := G21.ext e7
    replace G27_0 := G27_0.ext e7
    replace G33_0 := G33_0.ext e7
    replace O4 := O4.ext e7
    refine ov (xmove rfl) rfl rfl rfl ?_
    refine ov (xextract rfl rfl) rfl rfl rfl ?_
    refine ov (xextract rfl rfl) rfl rfl rfl ?_
    refine ov (xassign rfl) rfl rfl rfl ?_
    refine ov (xassign rfl) rfl rfl rfl ?_
    refine ops_nil ?_
    refine run_seq ?_
    refine run_region ?_
    refine ov (xmove rfl) rfl rfl rfl ?_
    refine ov (xmove rfl) rfl rfl rfl ?_
    refine oc (xcall Try.call17 rfl) rfl rfl rfl (ValueOf_ok _ _ _ _ (s38) _ (G38.sl) (by assumption)) ?_
    rintro _ w8 ⟨rfl, e8⟩
    have z8 := e8.size
    have E := E.trans e8
    replace G21 := G21.ext e8
    replace G27_0 := G27_0.ext e8
    replace G33_0 := G33_0.ext e8
    replace G38 := G38.ext e8
    replace O4 := O4.ext e8
    refine ov (xmove rfl) rfl rfl rfl ?_
    refine ov (xextract rfl rfl) rfl rfl rfl ?_
    refine ov (xextract rfl rfl) rfl rfl rfl ?_
    refine ov (xassign rfl) rfl rfl rfl ?_
    refine ov (xassign rfl) rfl rfl rfl ?_
    refine ops_nil ?_
    refine run_seq ?_
    refine run_region ?_
    refine ov (xmove rfl) rfl rfl rfl ?_
    refine ov (xmove rfl) rfl rfl rfl ?_
    refine oc (xcall Try.call16 rfl) rfl rfl rfl (sValueOf_ok _ _ _ _ (s38) _ (G38.sl) (by assumption)) ?_
    rintro _ w9 ⟨rfl, e9⟩
    have z9 := e9.size
    have E := E.trans e9
    replace G21 := G21.ext e9
    replace G27_0 := G27_0.ext e9
    replace G33_0 := G33_0.ext e9
    replace G38 := G38.ext e9
    replace O4 := O4.ext e9
    refine ov (xmove rfl) rfl rfl rfl ?_
    refine ov (xextract rfl rfl) rfl rfl rfl ?_
    refine ov (xextract rfl rfl) rfl rfl rfl ?_
    refine ov (xassign rfl) rfl rfl rfl ?_
    refine ov (xassign rfl) rfl rfl rfl ?_
    refine ops_nil ?_
    refine run_seq ?_
    refine run_seq ?_
    refine run_region ?_
    refine ov (xmove rfl) rfl rfl rfl ?_
    refine ov (xmove rfl) rfl rfl rfl ?_
    refine ov (xneq rfl rfl _ rfl) rfl rfl rfl ?_
    refine ods (fun c55 => ?_) (fun c55 => ?_)
    · exfalso; exact absurd rfl c55
    ·
      refine ov (xmove rfl) rfl rfl rfl ?_
      refine ov (xmove rfl) rfl rfl rfl ?_
      refine ov (xmove rfl) rfl rfl rfl ?_
      refine oc (xcall Try.call27 rfl) rfl rfl rfl (likeValues_ok _ _ _ _ _ _ _ _ (G27_0.sl) (G33_0.sl)) ?_
      rintro _ w10 ⟨rfl, e10⟩
      have z10 := e10.size
      have E := E.trans e10
      replace G21 := G21.ext e10
      replace G27_0 := G27_0.ext e10
      replace G33_0 := G33_0.ext e10
      replace G38 := G38.ext e10
      replace O4 := O4.ext e10
      refine obs (fun c59 => ?_) (fun c59 => ?_)
      ·
        refine ov (xnot rfl) rfl rfl rfl ?_
        refine ov (xpick_f rfl rfl) rfl rfl rfl ?_
        refine ov (xmove rfl) rfl rfl rfl ?_
        refine ov (xmove rfl) rfl rfl rfl ?_
        refine ov (xmove rfl) rfl rfl rfl ?_
        refine ov (xneq rfl rfl _ rfl) rfl rfl rfl ?_
        refine ods (fun c65 => ?_) (fun c65 => ?_)
        · exfalso; exact absurd rfl c65
        ·
          refine ov (xpick_f rfl rfl) rfl rfl rfl ?_
          refine ov (xmove rfl) rfl rfl rfl ?_
          refine ov (xmove rfl) rfl rfl rfl ?_
          refine ov (xmove rfl) rfl rfl rfl ?_
          refine ov (xsneq rfl rfl _ rfl) rfl rfl rfl ?_
          refine ods (fun c70 => ?_) (fun c70 => ?_)
          · exfalso; exact absurd rfl c70
          ·
            refine ov (xpick_f rfl rfl) rfl rfl rfl ?_
            refine ov (xmove rfl) rfl rfl rfl ?_
            refine ov (xmove rfl) rfl rfl rfl ?_
            refine oc (xcall Try.call14 rfl) rfl rfl rfl (AreValues_ok _ _ _ _ _ (G38.sl) (by assumption)) ?_
            rintro _ w11 ⟨rfl, e11⟩
            have z11 := e11.size
            have E := E.trans e11
            replace G21 := G21.ext e11
            replace G27_0 := G27_0.ext e11
            replace G33_0 := G33_0.ext e11
            replace G38 := G38.ext e11
            replace O4 := O4.ext e11
            refine ov (xmove rfl) rfl rfl rfl ?_
            refine oc (xcall Try.call12 rfl) rfl rfl rfl (sAreValues_ok _ _ _ _ _ (G38.sl) (by assumption)) ?_
            rintro _ w12 ⟨rfl, e12⟩
            have z12 := e12.size
            have E := E.trans e12
            replace G21 := G21.ext e12
            replace G27_0 := G27_0.ext e12
            replace G33_0 := G33_0.ext e12
            replace G38 := G38.ext e12
            replace O4 := O4.ext e12
            refine ov (xbneq Try.underlying4 rfl rfl) rfl rfl rfl ?_
            refine ods (fun c77 => ?_) (fun c77 => ?_)
            · exfalso; exact absurd rfl c77
            ·
              refine ov (xpick_f rfl rfl) rfl rfl rfl ?_
              refine ops_nil ?_
              refine run_cond_f rfl ?_
              refine run_skip ?_
              refine run_seq ?_
              refine run_seq ?_
              refine run_region ?_
              refine ov (xmove rfl) rfl rfl rfl ?_
              refine ov (xneq rfl rfl _ rfl) rfl rfl rfl ?_
              refine ods (fun c80 => ?_) (fun c80 => ?_)
              ·
                refine ops_nil ?_
                refine run_cond_t rfl ?_
                refine run_seq ?_
                refine run_region ?_
                refine ov (xassign rfl) rfl rfl rfl ?_
                refine ops_nil ?_
                refine run_ret Try.func6 (res1 rfl rfl) ?_
                exact ⟨_, rfl, rfl, E⟩
              ·
                have hsv := setValue_zero (by omega : (setValue xs21 r21).2 = 0)
                have hokv : ∀ x ∈ (setValue xs21 r21).1, x.ok := by rw [hsv.1]; exact setV_ok ok21 hr21
                have hvo : valueOf (setValue xs21 r21).1 r21.Name = (r21.Text, 0) := by rw [hsv.1]; exact value_set hsv.2
                refine ops_nil ?_
                refine run_cond_f rfl ?_
                refine run_skip ?_
                refine run_seq ?_
                refine run_region ?_
                refine ov (xmove rfl) rfl rfl rfl ?_
                refine ov (xfieldAddr fo37f0 rfl) rfl rfl rfl ?_
                refine ov (v := .string r21.Name) (xload1 Try.isAgg9 rfl (O4.cells) rfl) rfl rfl rfl ?_
                refine oc (xcall Try.call17 rfl) rfl rfl rfl (ValueOf_ok _ _ _ _ (r21.Name) _ (G27_0.sl) hokv) ?_
                rintro _ w13 ⟨rfl, e13⟩
                have z13 := e13.size
                have E := E.trans e13
                replace G21 := G21.ext e13
                replace G27_0 := G27_0.ext e13
                replace G33_0 := G33_0.ext e13
                replace G38 := G38.ext e13
                replace O4 := O4.ext e13
                refine ov (xmove rfl) rfl rfl rfl ?_
                refine ov (xextract rfl rfl) rfl rfl rfl ?_
                refine ov (xextract rfl rfl) rfl rfl rfl ?_
                refine ov (xassign rfl) rfl rfl rfl ?_
                refine ov (xassign rfl) rfl rfl rfl ?_
                refine ops_nil ?_
                refine run_seq ?_
                refine run_region ?_
                refine ov (xmove rfl) rfl rfl rfl ?_
                refine ov (xeql rfl rfl _ rfl) rfl rfl rfl ?_
                refine ods (fun c89 => ?_) (fun c89 => ?_)
                ·
                  refine ov (xmove rfl) rfl rfl rfl ?_
                  refine ov (xmove rfl) rfl rfl rfl ?_
                  refine ov (xfieldAddr fo37f1 rfl) rfl rfl rfl ?_
                  refine ov (v := .string r21.Text) (xload1 Try.isAgg9 rfl (O4.cells) rfl) rfl rfl rfl ?_
                  refine ov (xseql rfl rfl _ rfl) rfl rfl rfl ?_
                  refine ods (fun c94 => ?_) (fun c94 => ?_)
                  ·
                    refine ov (xpick_t rfl rfl) rfl rfl rfl ?_
                    refine ov (xmove rfl) rfl rfl rfl ?_
                    refine ov (xmove rfl) rfl rfl rfl ?_
                    refine oc (xcall Try.call14 rfl) rfl rfl rfl (AreValues_ok _ _ _ _ _ (G27_0.sl) hokv) ?_
                    rintro _ w14 ⟨rfl, e14⟩
                    have z14 := e14.size
                    have E := E.trans e14
                    replace G21 := G21.ext e14
                    replace G27_0 := G27_0.ext e14
                    replace G33_0 := G33_0.ext e14
                    replace G38 := G38.ext e14
                    replace O4 := O4.ext e14
                    refine ov (xpick_t rfl rfl) rfl rfl rfl ?_
                    refine ov (xassign rfl) rfl rfl rfl ?_
                    refine ops_nil ?_
                    refine run_ret Try.func6 (res1 rfl rfl) ?_
                    exact ⟨_, rfl, by rw [hsv.1, hsv.2], E⟩
                  · exfalso; exact c94 (by rw [hvo])
                · exfalso; exact c89 (by rw [hvo])
      · exfalso; cases c59
end Go.Proofs.Ytgbedilaiefcbaa
