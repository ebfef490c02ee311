/-
  The reference on templates: the walks. No condition beyond those written in each theorem.
-/
import Derived.Test.YtgbedilaiefcbaaFillL
import Derived.Test.YtgbedilaiefcbaaSortS
namespace Go.Proofs.Ytgbedilaiefcbaa
open Go.RowKit
set_option linter.unusedVariables false
set_option linter.unusedSimpArgs false
set_option linter.unusedSectionVars false
set_option maxRecDepth 4000

theorem textOf_at {vs : List Val} {n : ByteArray} (h : ¬ findV vs n < 0) : (findV vs n).toNat < vs.length ∧ findV vs n = ((findV vs n).toNat : Int) ∧ (textOf vs n).1 = (vs[(findV vs n).toNat]?.getD ⟨⟨#[]⟩, ⟨#[]⟩⟩).Text := by
  have h2 := findV_lt vs n
  refine ⟨by omega, by omega, ?_⟩
  rw [textOf, if_neg h, getVal]
theorem textOf_no {vs : List Val} {n : ByteArray} (h : findV vs n < 0) : (textOf vs n).1 = ⟨#[]⟩ := by rw [textOf, if_pos h]
theorem putN_n {vs : List Val} {a : F3} {n : ByteArray} (h : findV vs n < 0) : putN vs a n = (a.1, insT a.2.1 n, insT a.2.2 n) := by
  rw [putN, textOf_no h, if_pos h]
  refine Prod.ext ?_ rfl
  show a.1 ++ ByteArray.empty = _
  simp
theorem putN_y {vs : List Val} {a : F3} {n : ByteArray} (h : ¬ findV vs n < 0) (h2 : (findV vs n).toNat < vs.length) : putN vs a n = (a.1 ++ vs[(findV vs n).toNat].Text, insT a.2.1 n, a.2.2) := by
  rw [putN, (textOf_at h).2.2, if_neg h]
  simp [h2]
theorem fl_some {vs : List Val} {s : ByteArray} {a : F3} (h : (fl vs s a).isSome = true) : fl vs s a = some ((fl vs s a).getD f30) := by
  cases h2 : fl vs s a with
  | none => rw [h2] at h; cases h
  | some b => rfl
theorem fl_size (vs : List Val) (hv : ∀ (i : Nat) (h : i < vs.length), vs[i].Text.size ≤ 1048576) : ∀ (f : Nat) (s : ByteArray) (a b : F3), s.size < f → fl vs s a = some b → b.1.size ≤ a.1.size + s.size * 1048577 ∧ b.2.1.length ≤ a.2.1.length + s.size ∧ b.2.2.length ≤ a.2.2.length + s.size
  | 0, s, _, _, h, _ => by omega
  | f + 1, s, a, b, h, e => by
    by_cases h0 : (nextT s).2.1 = 0
    · rw [fl_end h0] at e
      injection e with e
      subst e
      have := next_le s
      simp only [addT, ByteArray.size_append]
      omega
    · by_cases h1 : (nextT s).2.1 = 123 ∧ (untilT (nextT s).2.2 125).2.2 = true ∧ isWord (untilT (nextT s).2.2 125).1 = true
      · rw [fl_step h0 h1] at e
        have a1 := next_size h0
        have a2 := until_size h1.2.1
        obtain ⟨c1, c2, c3⟩ := fl_size vs hv f _ _ _ (by omega) e
        generalize (untilT (nextT s).2.2 125).1 = n at *
        have i1 := insT_len a.2.1 n
        have i2 := insT_len a.2.2 n
        by_cases hk : findV vs n < 0
        · rw [putN_n hk] at c1 c2 c3
          simp only [addT, ByteArray.size_append] at c1 c2 c3
          omega
        · obtain ⟨k1, _, _⟩ := textOf_at hk
          have := hv _ k1
          rw [putN_y hk k1] at c1 c2 c3
          simp only [addT, ByteArray.size_append] at c1 c2 c3
          omega
      · rw [fl_wrong h0 h1] at e; cases e
theorem fl_size' {vs : List Val} (hv : ∀ (i : Nat) (h : i < vs.length), vs[i].Text.size ≤ 1048576) (s : ByteArray) : ((fl vs s f30).getD f30).1.size ≤ s.size * 1048577 ∧ ((fl vs s f30).getD f30).2.1.length ≤ s.size ∧ ((fl vs s f30).getD f30).2.2.length ≤ s.size := by
  cases h : fl vs s f30 with
  | none => exact ⟨Nat.zero_le _, Nat.zero_le _, Nat.zero_le _⟩
  | some b =>
    obtain ⟨h1, h2, h3⟩ := fl_size vs hv _ s f30 b (Nat.lt_succ_self _) h
    have e1 : f30.1.size = 0 := rfl
    have e2 : f30.2.1.length = 0 := rfl
    have e3 : f30.2.2.length = 0 := rfl
    simp only [Option.getD_some]
    omega
theorem al_no1 {vs : List Val} {t : ByteArray} {a : F4} (h : (fl vs (headT t) f30).isSome = false) : al vs t a = none := by
  rw [al_eq, alS]
  cases e : fl vs (headT t) f30 with
  | none => rfl
  | some l => rw [e] at h; cases h
theorem al_end {vs : List Val} {t : ByteArray} {a : F4} (h1 : (untilT t 91).2.2 = false) (h : (fl vs (headT t) f30).isSome = true) : al vs t a = some (joinF a ((fl vs (headT t) f30).getD f30)) := by
  rw [al_eq, alS]
  cases e : fl vs (headT t) f30 with
  | none => rw [e] at h; cases h
  | some l => rw [Option.bind_some, if_neg (by simp [h1])]; rfl
theorem al_no2 {vs : List Val} {t : ByteArray} {a : F4} (h1 : (untilT t 91).2.2 = true) (h : ¬ ((bodyT t).2.2 = true ∧ (barT t).2.2 = true ∧ isWord (barT t).1 = true ∧ (fl vs (barT t).2.1 f30).isSome = true)) : al vs t a = none := by
  rw [al_eq, alS]
  cases fl vs (headT t) f30 with
  | none => rfl
  | some l =>
    rw [Option.bind_some, if_pos h1]
    by_cases h3 : (bodyT t).2.2 = true ∧ (barT t).2.2 = true ∧ isWord (barT t).1 = true
    · rw [if_pos h3]
      cases h4 : fl vs (barT t).2.1 f30 with
      | none => rfl
      | some i => exact absurd ⟨h3.1, h3.2.1, h3.2.2, by rw [h4]; rfl⟩ h
    · rw [if_neg h3]
theorem al_step {vs : List Val} {t : ByteArray} {a : F4} (h1 : (untilT t 91).2.2 = true) (h : (fl vs (headT t) f30).isSome = true) (h2 : (bodyT t).2.2 = true) (h3 : (barT t).2.2 = true) (h4 : isWord (barT t).1 = true) (h5 : (fl vs (barT t).2.1 f30).isSome = true) :
    al vs t a = al vs (bodyT t).2.1 (secF vs (joinF a ((fl vs (headT t) f30).getD f30)) (barT t).1 ((fl vs (barT t).2.1 f30).getD f30)) := by
  rw [al_eq, alS]
  cases e : fl vs (headT t) f30 with
  | none => rw [e] at h; cases h
  | some l =>
    rw [Option.bind_some, if_pos h1, if_pos ⟨h2, h3, h4⟩]
    cases e2 : fl vs (barT t).2.1 f30 with
    | none => rw [e2] at h5; cases h5
    | some u => simp only [Option.bind_some, Option.getD_some]
theorem al_some {vs : List Val} {s : ByteArray} {a : F4} (h : (al vs s a).isSome = true) : al vs s a = some ((al vs s a).getD f40) := by
  cases h2 : al vs s a with
  | none => rw [h2] at h; cases h
  | some b => rfl
theorem headT_t {t : ByteArray} (h : (untilT t 91).2.2 = true) : headT t = (untilT t 91).1 := by rw [headT, if_pos h]
theorem headT_f {t : ByteArray} (h : (untilT t 91).2.2 = false) : headT t = t := by rw [headT, if_neg (by simp [h])]

attribute [local irreducible] at1 fstB untilT nextT fl al rp rt cutT isWord tail1 insT insAllT findV textOf

set_option maxHeartbeats 4000000 in
theorem l28Fill_ok (s : ByteArray) (p : Option Addr) (n c : Nat) (vs : List Val) (w : World) (H : Sl Val.cells 2 w p n c vs) (hs : s.size ≤ 1048576) (hv : ∀ (i : Nat) (h : i < vs.length), vs[i].Text.size ≤ 1048576) : Ret Try.prog 69 [.string s, .slice p n c] w (fun v w' => Ext w w' ∧ ∃ q1 m1 d1 q2 m2 d2, v = .tuple #[.string ((fl vs s f30).getD f30).1, .slice q1 m1 d1, .slice q2 m2 d2, .bool (fl vs s f30).isSome] ∧ Ow strc 1 9 w' w.heap.size w'.heap.size q1 m1 d1 ((fl vs s f30).getD f30).2.1 ∧ Ow strc 1 9 w' w.heap.size w'.heap.size q2 m2 d2 ((fl vs s f30).getD f30).2.2) := by
  refine ret_of_run (N := 68) Try.func69 rfl rfl rfl ?_
  have hn := H.len
  have E : Ext w w := Ext.refl w
  refine run_seq ?_
  refine run_region ?_
  refine ov (xassign rfl) rfl rfl rfl ?_
  refine ov (xassign rfl) rfl rfl rfl ?_
  refine ov (xassign rfl) rfl rfl rfl ?_
  refine ov (xassign rfl) rfl rfl rfl ?_
  refine ops_nil ?_
  refine run_seq ?_
  refine run_region ?_
  refine obuild (cs := []) (sz := 1) Try.underlying48 inf9 rfl rfl (by decide) rfl rfl (by simp [Value.cells]) rfl rfl rfl ?_
  intro b1 w1 e1 hb1 hz1 O1
  have E := E.trans e1
  have G1 : Ow strc 1 9 w1 b1 (b1 + 1) (some ⟨b1, 0, none⟩) 0 0 ([] : List ByteArray) := Own.ow (by simpa [strc] using O1) rfl (by omega) (Nat.le_refl _) (by omega) (by intro x hx; rfl)
  refine obuild (cs := []) (sz := 1) Try.underlying48 inf9 rfl rfl (by decide) rfl rfl (by simp [Value.cells]) rfl rfl rfl ?_
  intro b2 w2 e2 hb2 hz2 O2
  have E := E.trans e2
  replace G1 := G1.ext e2
  have G2 : Ow strc 1 9 w2 b2 (b2 + 1) (some ⟨b2, 0, none⟩) 0 0 ([] : List ByteArray) := Own.ow (by simpa [strc] using O2) rfl (by omega) (Nat.le_refl _) (by omega) (by intro x hx; rfl)
  refine ov (xassign rfl) rfl rfl rfl ?_
  refine ov (xassign rfl) rfl rfl rfl ?_
  refine ov (xassign rfl) rfl rfl rfl ?_
  refine ops_nil ?_
  refine run_block ?_
  refine run_loop (ι := ByteArray × ByteArray × Option Addr × Nat × Nat × List ByteArray × Option Addr × Nat × Nat × List ByteArray × World) (fun x_ => match x_ with | (t, o, q_9, m_9, c_9, ys_9, q_10, m_10, c_10, ys_10, wr) => (Ext w wr) ∧ (Ow strc 1 9 wr b1 wr.heap.size q_9 m_9 c_9 ys_9) ∧ (b1 ≤ wr.heap.size) ∧ (Ow strc 1 9 wr b2 wr.heap.size q_10 m_10 c_10 ys_10) ∧ (b2 ≤ wr.heap.size) ∧ (w2.heap.size ≤ wr.heap.size) ∧ (t.size ≤ s.size) ∧ (fl vs s f30 = fl vs t (o, ys_9, ys_10)) ∧ (o.size + t.size * 1048577 ≤ s.size * 1048577) ∧ (ys_9.length + t.size ≤ s.size) ∧ (ys_10.length + t.size ≤ s.size)) (fun x_ => match x_ with | (t, o, q_9, m_9, c_9, ys_9, q_10, m_10, c_10, ys_10, wr) => [(0, .string t), (1, .slice p n c), (8, .string o), (9, .slice q_9 m_9 c_9), (10, .slice q_10 m_10 c_10)]) (fun x_ => match x_ with | (t, o, q_9, m_9, c_9, ys_9, q_10, m_10, c_10, ys_10, wr) => wr) (fun x_ => match x_ with | (t, o, q_9, m_9, c_9, ys_9, q_10, m_10, c_10, ys_10, wr) => t.size) ?_ (s, ⟨#[]⟩, (some ⟨b1, 0, none⟩), 0, 0, [], (some ⟨b2, 0, none⟩), 0, 0, [], w2) (⟨E, G1.wide (by omega) (by omega), by omega, G2.wide (by omega) (by omega), by omega, Nat.le_refl _, by omega, rfl, by show 0 + _ ≤ _; omega, by simp, by simp⟩) ⟨rfl, rfl, rfl, rfl, rfl, trivial⟩ rfl
  intro i_ hI_ hback2
  obtain ⟨t, o, q_9, m_9, c_9, ys_9, q_10, m_10, c_10, ys_10, wr⟩ := i_
  obtain ⟨E, G_9, lo_9, G_10, lo_10, lz_wr, hts, hfl, hos, h9, h10⟩ := hI_
  try dsimp only
  have zr := E.size
  have lg_9 := G_9.len
  have lg_10 := G_10.len
  have hnx := next_le t
  have hi9 := insT_len ys_9 (untilT (nextT t).2.2 125).1
  have hi10 := insT_len ys_10 (untilT (nextT t).2.2 125).1
  refine run_block ?_
  refine run_seq ?_
  refine run_region ?_
  refine ov (xmove rfl) rfl rfl rfl ?_
  refine oc (xcall Try.call83 rfl) rfl rfl rfl (l28Next_ok t _ (by omega)) ?_
  rintro _ w3 ⟨rfl, e3⟩
  have z3 := e3.size
  have E := E.trans e3
  replace G_9 := G_9.ext e3
  replace G_10 := G_10.ext e3
  refine ov (xmove rfl) rfl rfl rfl ?_
  refine ov (xextract rfl rfl) rfl rfl rfl ?_
  refine ov (xextract rfl rfl) rfl rfl rfl ?_
  refine ov (xextract rfl rfl) rfl rfl rfl ?_
  refine ov (xassign rfl) rfl rfl rfl ?_
  refine ov (xassign rfl) rfl rfl rfl ?_
  refine ov (xassign rfl) rfl rfl rfl ?_
  refine ops_nil ?_
  refine run_seq ?_
  refine run_region ?_
  refine ov (xmove rfl) rfl rfl rfl ?_
  refine ov (xmove rfl) rfl rfl rfl ?_
  refine ov (xsadd rfl rfl (by omega)) rfl rfl rfl ?_
  refine ov (xassign rfl) rfl rfl rfl ?_
  refine ops_nil ?_
  refine run_seq ?_
  refine run_seq ?_
  refine run_region ?_
  refine ov (xmove rfl) rfl rfl rfl ?_
  refine ov (xeql rfl rfl _ rfl) rfl rfl rfl ?_
  refine ods (fun c30 => ?_) (fun c30 => ?_)
  ·
    refine ops_nil ?_
    refine run_cond_t rfl ?_
    refine run_seq ?_
    refine run_region ?_
    refine ov (xmove rfl) rfl rfl rfl ?_
    refine ov (xmove rfl) rfl rfl rfl ?_
    refine ov (xmove rfl) rfl rfl rfl ?_
    refine ov (xassign rfl) rfl rfl rfl ?_
    refine ov (xassign rfl) rfl rfl rfl ?_
    refine ov (xassign rfl) rfl rfl rfl ?_
    refine ov (xassign rfl) rfl rfl rfl ?_
    refine ops_nil ?_
    refine run_ret Try.func69 (res4 rfl rfl rfl rfl rfl) ?_
    have he : fl vs s f30 = some (o ++ (nextT t).1, ys_9, ys_10) := by rw [hfl, fl_end (by omega)]; rfl
    exact ⟨_, rfl, E, _, _, _, _, _, _, by rw [he]; rfl, by rw [he]; exact G_9.wide (by omega) (by omega), by rw [he]; exact G_10.wide (by omega) (by omega)⟩
  ·
    refine ops_nil ?_
    refine run_cond_f rfl ?_
    refine run_skip ?_
    refine run_seq ?_
    refine run_seq ?_
    refine run_region ?_
    refine ov (xmove rfl) rfl rfl rfl ?_
    refine ov (xneq rfl rfl _ rfl) rfl rfl rfl ?_
    refine ods (fun c35 => ?_) (fun c35 => ?_)
    ·
      refine ops_nil ?_
      refine run_cond_t rfl ?_
      refine run_seq ?_
      refine run_region ?_
      refine ov (xassign rfl) rfl rfl rfl ?_
      refine ov (xassign rfl) rfl rfl rfl ?_
      refine ov (xassign rfl) rfl rfl rfl ?_
      refine ov (xassign rfl) rfl rfl rfl ?_
      refine ops_nil ?_
      refine run_ret Try.func69 (res4 rfl rfl rfl rfl rfl) ?_
      have he : fl vs s f30 = none := by rw [hfl, fl_wrong (by omega) (by rintro ⟨h1_, h2_, h3_⟩; omega)]
      exact ⟨_, rfl, E, none, 0, 0, none, 0, 0, by rw [he]; rfl, by rw [he]; exact Ow.none _ _ _ _ _ _, by rw [he]; exact Ow.none _ _ _ _ _ _⟩
    ·
      refine ops_nil ?_
      refine run_cond_f rfl ?_
      refine run_skip ?_
      refine run_seq ?_
      refine run_region ?_
      refine ov (xmove rfl) rfl rfl rfl ?_
      refine oc (xcall Try.call68 rfl) rfl rfl rfl (l28Until_ok (nextT t).2.2 125 _ (by omega)) ?_
      rintro _ w4 ⟨rfl, e4⟩
      have z4 := e4.size
      have E := E.trans e4
      replace G_9 := G_9.ext e4
      replace G_10 := G_10.ext e4
      refine ov (xmove rfl) rfl rfl rfl ?_
      refine ov (xextract rfl rfl) rfl rfl rfl ?_
      refine ov (xextract rfl rfl) rfl rfl rfl ?_
      refine ov (xextract rfl rfl) rfl rfl rfl ?_
      refine obs (fun c41 => ?_) (fun c41 => ?_)
      ·
        have hus := until_size c41
        refine ov (xassign rfl) rfl rfl rfl ?_
        refine ov (xassign rfl) rfl rfl rfl ?_
        refine ov (xassign rfl) rfl rfl rfl ?_
        refine ops_nil ?_
        refine run_seq ?_
        refine run_seq ?_
        refine run_region ?_
        refine ov (xmove rfl) rfl rfl rfl ?_
        refine ov (xnot rfl) rfl rfl rfl ?_
        refine ov (xmove rfl) rfl rfl rfl ?_
        refine ov (xmove rfl) rfl rfl rfl ?_
        refine oc (xcall Try.call39 rfl) rfl rfl rfl (sIsWord_ok ((untilT (nextT t).2.2 125).1) _ (by first | assumption | omega)) ?_
        rintro _ w_ ⟨rfl, hw_⟩
        replace hw_ := hw_.symm
        subst hw_
        refine obs (fun c46 => ?_) (fun c46 => ?_)
        ·
          refine ov (xnot rfl) rfl rfl rfl ?_
          refine ov (xpick_f rfl rfl) rfl rfl rfl ?_
          refine ops_nil ?_
          refine run_cond_f rfl ?_
          refine run_skip ?_
          refine run_seq ?_
          refine run_region ?_
          refine ov (xmove rfl) rfl rfl rfl ?_
          refine ov (xmove rfl) rfl rfl rfl ?_
          refine oc (xcall Try.call71 rfl) rfl rfl rfl (l13Insert_ok _ _ _ _ (untilT (nextT t).2.2 125).1 _ _ _ G_9 (by omega) (by omega) (by omega)) ?_
          rintro _ w5 ⟨e5, q51, m51, d51, rfl, G51⟩
          have z5 := e5.size
          have E := E.trans e5
          replace G_9 := G_9.ext e5
          replace G_10 := G_10.ext e5
          have lG51 := G51.len
          refine ov (xassign rfl) rfl rfl rfl ?_
          refine ops_nil ?_
          refine run_seq ?_
          refine run_region ?_
          refine ov (xmove rfl) rfl rfl rfl ?_
          refine ov (xmove rfl) rfl rfl rfl ?_
          refine oc (xcall Try.call41 rfl) rfl rfl rfl (l28Find_ok _ _ _ _ (untilT (nextT t).2.2 125).1 _ (H.ext E)) ?_
          rintro _ w6 ⟨rfl, e6⟩
          have z6 := e6.size
          have E := E.trans e6
          replace G_9 := G_9.ext e6
          replace G_10 := G_10.ext e6
          replace G51 := G51.ext e6
          refine ov (xassign rfl) rfl rfl rfl ?_
          refine ops_nil ?_
          refine run_seq ?_
          refine run_seq ?_
          refine run_region ?_
          refine ov (xmove rfl) rfl rfl rfl ?_
          refine ov (xlss rfl rfl _ rfl) rfl rfl rfl ?_
          refine ods (fun c56 => ?_) (fun c56 => ?_)
          ·
            refine ops_nil ?_
            refine run_cond_t rfl ?_
            refine run_region ?_
            refine ov (xmove rfl) rfl rfl rfl ?_
            refine ov (xmove rfl) rfl rfl rfl ?_
            refine oc (xcall Try.call71 rfl) rfl rfl rfl (l13Insert_ok _ _ _ _ (untilT (nextT t).2.2 125).1 _ _ _ G_10 (by omega) (by omega) (by omega)) ?_
            rintro _ w7 ⟨e7, q59, m59, d59, rfl, G59⟩
            have z7 := e7.size
            have E := E.trans e7
            replace G_9 := G_9.ext e7
            replace G_10 := G_10.ext e7
            replace G51 := G51.ext e7
            have lG59 := G59.len
            refine ov (xassign rfl) rfl rfl rfl ?_
            refine ops_nil ?_
            refine run_region ?_
            refine ov (xmove rfl) rfl rfl rfl ?_
            refine ov (xassign rfl) rfl rfl rfl ?_
            refine ops_nil ?_
            refine run_inBlock ?_
            refine run_sub ?_ (hback2 ((untilT (nextT t).2.2 125).2.1, (o ++ (nextT t).1), q51, m51, d51, (insT ys_9 (untilT (nextT t).2.2 125).1), q59, m59, d59, (insT ys_10 (untilT (nextT t).2.2 125).1), w7) (⟨E, G51.wide (by omega) (by omega), by omega, G59.wide (by omega) (by omega), by omega, by omega, by have := next_size (s := t) (by omega); omega, by rw [hfl, fl_step (by omega) ⟨by omega, c41, c46⟩, putN_n c56]; rfl, by have := next_size (s := t) (by omega); simp only [ByteArray.size_append]; omega, by have := next_size (s := t) (by omega); omega, by have := next_size (s := t) (by omega); omega⟩) (by have := next_size (s := t) (by omega); dsimp only; omega))
            exact ⟨rfl, rfl, rfl, rfl, rfl, trivial⟩
          ·
            obtain ⟨hk1, hk2, _⟩ := textOf_at c56
            have hvk := hv _ hk1
            refine ops_nil ?_
            refine run_cond_f rfl ?_
            refine run_region ?_
            refine ov (xmove rfl) rfl rfl rfl ?_
            refine ov (xmove rfl) rfl rfl rfl ?_
            refine ov (xmove rfl) rfl rfl rfl ?_
            have h63 := (H.ext E).at (i := (findV vs (untilT (nextT t).2.2 125).1).toNat) (by omega)
            refine ov (xindexN (i := (findV vs (untilT (nextT t).2.2 125).1).toNat) Try.underlying25 Try.sizeOf37 rfl rfl (by omega) ((H.ext E).p (i := (findV vs (untilT (nextT t).2.2 125).1).toNat) (by omega)) (by have := (H.ext E).len; omega)) rfl rfl rfl ?_
            refine ov (xfieldAddr fo37f1 rfl) rfl rfl rfl ?_
            refine ov (v := .string vs[(findV vs (untilT (nextT t).2.2 125).1).toNat].Text) (xload1 Try.isAgg9 rfl (h63) rfl) rfl rfl rfl ?_
            refine ov (xsadd rfl rfl (by rw [ByteArray.size_append]; omega)) rfl rfl rfl ?_
            refine ov (xassign rfl) rfl rfl rfl ?_
            refine ops_nil ?_
            refine run_region ?_
            refine ov (xmove rfl) rfl rfl rfl ?_
            refine ov (xassign rfl) rfl rfl rfl ?_
            refine ops_nil ?_
            refine run_inBlock ?_
            refine run_sub ?_ (hback2 ((untilT (nextT t).2.2 125).2.1, (o ++ (nextT t).1 ++ vs[(findV vs (untilT (nextT t).2.2 125).1).toNat].Text), q51, m51, d51, (insT ys_9 (untilT (nextT t).2.2 125).1), q_10, m_10, c_10, ys_10, w6) (⟨E, G51.wide (by omega) (by omega), by omega, G_10.wide (by omega) (by omega), by omega, by omega, by have := next_size (s := t) (by omega); omega, by rw [hfl, fl_step (by omega) ⟨by omega, c41, c46⟩, putN_y c56 hk1]; rfl, by have := next_size (s := t) (by omega); simp only [ByteArray.size_append]; omega, by have := next_size (s := t) (by omega); omega, by have := next_size (s := t) (by omega); omega⟩) (by have := next_size (s := t) (by omega); dsimp only; omega))
            exact ⟨rfl, rfl, rfl, rfl, rfl, trivial⟩
        ·
          refine ov (xnot rfl) rfl rfl rfl ?_
          refine ov (xpick_f rfl rfl) rfl rfl rfl ?_
          refine ops_nil ?_
          refine run_cond_t rfl ?_
          refine run_seq ?_
          refine run_region ?_
          refine ov (xassign rfl) rfl rfl rfl ?_
          refine ov (xassign rfl) rfl rfl rfl ?_
          refine ov (xassign rfl) rfl rfl rfl ?_
          refine ov (xassign rfl) rfl rfl rfl ?_
          refine ops_nil ?_
          refine run_ret Try.func69 (res4 rfl rfl rfl rfl rfl) ?_
          have he : fl vs s f30 = none := by rw [hfl, fl_wrong (by omega) (by rintro ⟨h1_, h2_, h3_⟩; simp [c46] at h3_)]
          exact ⟨_, rfl, E, none, 0, 0, none, 0, 0, by rw [he]; rfl, by rw [he]; exact Ow.none _ _ _ _ _ _, by rw [he]; exact Ow.none _ _ _ _ _ _⟩
      ·
        refine ov (xassign rfl) rfl rfl rfl ?_
        refine ov (xassign rfl) rfl rfl rfl ?_
        refine ov (xassign rfl) rfl rfl rfl ?_
        refine ops_nil ?_
        refine run_seq ?_
        refine run_seq ?_
        refine run_region ?_
        refine ov (xmove rfl) rfl rfl rfl ?_
        refine ov (xnot rfl) rfl rfl rfl ?_
        refine ov (xmove rfl) rfl rfl rfl ?_
        refine og rfl rfl rfl ?_
        refine og rfl rfl rfl ?_
        refine og rfl rfl rfl ?_
        refine ov (xpick_t rfl rfl) rfl rfl rfl ?_
        refine ops_nil ?_
        refine run_cond_t rfl ?_
        refine run_seq ?_
        refine run_region ?_
        refine ov (xassign rfl) rfl rfl rfl ?_
        refine ov (xassign rfl) rfl rfl rfl ?_
        refine ov (xassign rfl) rfl rfl rfl ?_
        refine ov (xassign rfl) rfl rfl rfl ?_
        refine ops_nil ?_
        refine run_ret Try.func69 (res4 rfl rfl rfl rfl rfl) ?_
        have he : fl vs s f30 = none := by rw [hfl, fl_wrong (by omega) (by rintro ⟨h1_, h2_, h3_⟩; simp [c41] at h2_)]
        exact ⟨_, rfl, E, none, 0, 0, none, 0, 0, by rw [he]; rfl, by rw [he]; exact Ow.none _ _ _ _ _ _, by rw [he]; exact Ow.none _ _ _ _ _ _⟩

theorem secF_n {vs : List Val} {a : F4} {n : ByteArray} {t : F3} (h : (textOf vs n).1 = ⟨#[]⟩) : secF vs a n t = (a.1, insAllT a.2.1 t.2.1, insT a.2.2.1 n, a.2.2.2) := by rw [secF, if_pos h]
theorem secF_y {vs : List Val} {a : F4} {n : ByteArray} {t : F3} (h : ¬ (textOf vs n).1 = ⟨#[]⟩) : secF vs a n t = (a.1 ++ t.1, insAllT a.2.1 t.2.1, insT a.2.2.1 n, insAllT a.2.2.2 t.2.2) := by rw [secF, if_neg h]
theorem textOf_get {vs : List Val} {n : ByteArray} (h : ¬ findV vs n < 0) (h2 : (findV vs n).toNat < vs.length) : (textOf vs n).1 = vs[(findV vs n).toNat].Text := by rw [(textOf_at h).2.2]; simp [h2]

set_option maxHeartbeats 20000000 in
theorem l28All_ok (s : ByteArray) (p : Option Addr) (n c : Nat) (vs : List Val) (w : World) (H : Sl Val.cells 2 w p n c vs) (hs : s.size ≤ 1048576) (hv : ∀ (i : Nat) (h : i < vs.length), vs[i].Text.size ≤ 1048576) : Ret Try.prog 57 [.string s, .slice p n c] w (fun v w' => Ext w w' ∧ ∃ q1 m1 d1 q2 m2 d2 q3 m3 d3, v = .tuple #[.string ((al vs s f40).getD f40).1, .slice q1 m1 d1, .slice q2 m2 d2, .slice q3 m3 d3, .bool (al vs s f40).isSome] ∧ Ow strc 1 9 w' w.heap.size w'.heap.size q1 m1 d1 ((al vs s f40).getD f40).2.1 ∧ Ow strc 1 9 w' w.heap.size w'.heap.size q2 m2 d2 ((al vs s f40).getD f40).2.2.1 ∧ Ow strc 1 9 w' w.heap.size w'.heap.size q3 m3 d3 ((al vs s f40).getD f40).2.2.2) := by
  refine ret_of_run (N := 125) Try.func57 rfl rfl rfl ?_
  have hn := H.len
  have E : Ext w w := Ext.refl w
  refine run_seq ?_
  refine run_region ?_
  refine ov (xassign rfl) rfl rfl rfl ?_
  refine ov (xassign rfl) rfl rfl rfl ?_
  refine ov (xassign rfl) rfl rfl rfl ?_
  refine ov (xassign rfl) rfl rfl rfl ?_
  refine ov (xassign rfl) rfl rfl rfl ?_
  refine ops_nil ?_
  refine run_seq ?_
  refine run_region ?_
  refine obuild (cs := []) (sz := 1) Try.underlying48 inf9 rfl rfl (by decide) rfl rfl (by simp [Value.cells]) rfl rfl rfl ?_
  intro b1 w1 e1 hb1 hz1 O1
  have E := E.trans e1
  have G1 : Ow strc 1 9 w1 b1 (b1 + 1) (some ⟨b1, 0, none⟩) 0 0 ([] : List ByteArray) := Own.ow (by simpa [strc] using O1) rfl (by omega) (Nat.le_refl _) (by omega) (by intro x hx; rfl)
  refine obuild (cs := []) (sz := 1) Try.underlying48 inf9 rfl rfl (by decide) rfl rfl (by simp [Value.cells]) rfl rfl rfl ?_
  intro b2 w2 e2 hb2 hz2 O2
  have E := E.trans e2
  replace G1 := G1.ext e2
  have G2 : Ow strc 1 9 w2 b2 (b2 + 1) (some ⟨b2, 0, none⟩) 0 0 ([] : List ByteArray) := Own.ow (by simpa [strc] using O2) rfl (by omega) (Nat.le_refl _) (by omega) (by intro x hx; rfl)
  refine obuild (cs := []) (sz := 1) Try.underlying48 inf9 rfl rfl (by decide) rfl rfl (by simp [Value.cells]) rfl rfl rfl ?_
  intro b3 w3 e3 hb3 hz3 O3
  have E := E.trans e3
  replace G1 := G1.ext e3
  replace G2 := G2.ext e3
  have G3 : Ow strc 1 9 w3 b3 (b3 + 1) (some ⟨b3, 0, none⟩) 0 0 ([] : List ByteArray) := Own.ow (by simpa [strc] using O3) rfl (by omega) (Nat.le_refl _) (by omega) (by intro x hx; rfl)
  refine ov (xassign rfl) rfl rfl rfl ?_
  refine ov (xassign rfl) rfl rfl rfl ?_
  refine ov (xassign rfl) rfl rfl rfl ?_
  refine ov (xassign rfl) rfl rfl rfl ?_
  refine ops_nil ?_
  refine run_block ?_
  refine run_loop (ι := ByteArray × ByteArray × Option Addr × Nat × Nat × List ByteArray × Option Addr × Nat × Nat × List ByteArray × Option Addr × Nat × Nat × List ByteArray × World) (fun x_ => match x_ with | (t, o, q_10, m_10, c_10, ys_10, q_11, m_11, c_11, ys_11, q_12, m_12, c_12, ys_12, wr) => (Ext w wr) ∧ (Ow strc 1 9 wr b1 wr.heap.size q_10 m_10 c_10 ys_10) ∧ (b1 ≤ wr.heap.size) ∧ (Ow strc 1 9 wr b2 wr.heap.size q_11 m_11 c_11 ys_11) ∧ (b2 ≤ wr.heap.size) ∧ (Ow strc 1 9 wr b3 wr.heap.size q_12 m_12 c_12 ys_12) ∧ (b3 ≤ wr.heap.size) ∧ (w3.heap.size ≤ wr.heap.size) ∧ (t.size ≤ s.size) ∧ (al vs s f40 = al vs t (o, ys_10, ys_11, ys_12)) ∧ (o.size + t.size * 1048577 ≤ s.size * 1048577) ∧ (ys_10.length + t.size ≤ s.size) ∧ (ys_11.length + t.size ≤ s.size) ∧ (ys_12.length + t.size ≤ s.size)) (fun x_ => match x_ with | (t, o, q_10, m_10, c_10, ys_10, q_11, m_11, c_11, ys_11, q_12, m_12, c_12, ys_12, wr) => [(0, .string t), (1, .slice p n c), (9, .string o), (10, .slice q_10 m_10 c_10), (11, .slice q_11 m_11 c_11), (12, .slice q_12 m_12 c_12)]) (fun x_ => match x_ with | (t, o, q_10, m_10, c_10, ys_10, q_11, m_11, c_11, ys_11, q_12, m_12, c_12, ys_12, wr) => wr) (fun x_ => match x_ with | (t, o, q_10, m_10, c_10, ys_10, q_11, m_11, c_11, ys_11, q_12, m_12, c_12, ys_12, wr) => t.size) ?_ (s, ⟨#[]⟩, (some ⟨b1, 0, none⟩), 0, 0, [], (some ⟨b2, 0, none⟩), 0, 0, [], (some ⟨b3, 0, none⟩), 0, 0, [], w3) (⟨E, G1.wide (by omega) (by omega), by omega, G2.wide (by omega) (by omega), by omega, G3.wide (by omega) (by omega), by omega, Nat.le_refl _, by omega, rfl, by show 0 + _ ≤ _; omega, by simp, by simp, by simp⟩) ⟨rfl, rfl, rfl, rfl, rfl, rfl, trivial⟩ rfl
  intro i_ hI_ hback2
  obtain ⟨t, o, q_10, m_10, c_10, ys_10, q_11, m_11, c_11, ys_11, q_12, m_12, c_12, ys_12, wr⟩ := i_
  obtain ⟨E, G_10, lo_10, G_11, lo_11, G_12, lo_12, lz_wr, hts, hal, hos, h10, h11, h12⟩ := hI_
  try dsimp only
  have zr := E.size
  have lg_10 := G_10.len
  have lg_11 := G_11.len
  have lg_12 := G_12.len
  refine run_block ?_
  refine run_seq ?_
  refine run_region ?_
  refine ov (xmove rfl) rfl rfl rfl ?_
  refine oc (xcall Try.call68 rfl) rfl rfl rfl (l28Until_ok t 91 _ (by omega)) ?_
  rintro _ w4 ⟨rfl, e4⟩
  have z4 := e4.size
  have E := E.trans e4
  replace G_10 := G_10.ext e4
  replace G_11 := G_11.ext e4
  replace G_12 := G_12.ext e4
  refine ov (xmove rfl) rfl rfl rfl ?_
  refine ov (xextract rfl rfl) rfl rfl rfl ?_
  refine ov (xextract rfl rfl) rfl rfl rfl ?_
  refine ov (xextract rfl rfl) rfl rfl rfl ?_
  refine obs (fun c35 => ?_) (fun c35 => ?_)
  ·
    have hus := until_size c35
    have hf42 := fl_size' hv (untilT t 91).1
    have hi54 := insAllT_len ys_10 ((fl vs (untilT t 91).1 f30).getD f30).2.1
    have hi57 := insAllT_len ys_12 ((fl vs (untilT t 91).1 f30).getD f30).2.2
    have hl2 := until_le (untilT t 91).2.1 93
    have hl3 := until_le (untilT (untilT t 91).2.1 93).1 124
    have hf79 := fl_size' hv (untilT (untilT (untilT t 91).2.1 93).1 124).2.1
    have hi104 := insAllT_len (insAllT ys_10 ((fl vs (untilT t 91).1 f30).getD f30).2.1) ((fl vs (untilT (untilT (untilT t 91).2.1 93).1 124).2.1 f30).getD f30).2.1
    have hi123 := insAllT_len (insAllT ys_12 ((fl vs (untilT t 91).1 f30).getD f30).2.2) ((fl vs (untilT (untilT (untilT t 91).2.1 93).1 124).2.1 f30).getD f30).2.2
    have hi101 := insT_len ys_11 (untilT (untilT (untilT t 91).2.1 93).1 124).1
    refine ov (xassign rfl) rfl rfl rfl ?_
    refine ov (xassign rfl) rfl rfl rfl ?_
    refine ov (xassign rfl) rfl rfl rfl ?_
    refine ops_nil ?_
    refine run_seq ?_
    refine run_seq ?_
    refine run_region ?_
    refine ov (xmove rfl) rfl rfl rfl ?_
    refine ov (xnot rfl) rfl rfl rfl ?_
    refine ops_nil ?_
    refine run_cond_f rfl ?_
    refine run_skip ?_
    refine run_seq ?_
    refine run_region ?_
    refine ov (xmove rfl) rfl rfl rfl ?_
    refine ov (xmove rfl) rfl rfl rfl ?_
    refine oc (xcall Try.call69 rfl) rfl rfl rfl (l28Fill_ok ((untilT t 91).1) _ _ _ _ _ (H.ext E) (by omega) hv) ?_
    rintro _ w5 ⟨e5, q42, m42, d42, r42, k42, l42, rfl, G42, J42⟩
    have z5 := e5.size
    have E := E.trans e5
    replace G_10 := G_10.ext e5
    replace G_11 := G_11.ext e5
    replace G_12 := G_12.ext e5
    have lG42 := G42.len
    have lJ42 := J42.len
    refine ov (xmove rfl) rfl rfl rfl ?_
    refine ov (xextract rfl rfl) rfl rfl rfl ?_
    refine ov (xextract rfl rfl) rfl rfl rfl ?_
    refine ov (xextract rfl rfl) rfl rfl rfl ?_
    refine ov (xextract rfl rfl) rfl rfl rfl ?_
    refine obs (fun c46 => ?_) (fun c46 => ?_)
    ·
      refine ov (xassign rfl) rfl rfl rfl ?_
      refine ov (xassign rfl) rfl rfl rfl ?_
      refine ov (xassign rfl) rfl rfl rfl ?_
      refine ov (xassign rfl) rfl rfl rfl ?_
      refine ops_nil ?_
      refine run_seq ?_
      refine run_seq ?_
      refine run_region ?_
      refine ov (xmove rfl) rfl rfl rfl ?_
      refine ov (xnot rfl) rfl rfl rfl ?_
      refine ops_nil ?_
      refine run_cond_f rfl ?_
      refine run_skip ?_
      refine run_seq ?_
      refine run_region ?_
      refine ov (xmove rfl) rfl rfl rfl ?_
      refine ov (xmove rfl) rfl rfl rfl ?_
      refine ov (xsadd rfl rfl (by omega)) rfl rfl rfl ?_
      refine ov (xassign rfl) rfl rfl rfl ?_
      refine ops_nil ?_
      refine run_seq ?_
      refine run_region ?_
      refine ov (xmove rfl) rfl rfl rfl ?_
      refine ov (xmove rfl) rfl rfl rfl ?_
      refine oc (xcall Try.call70 rfl) rfl rfl rfl (l28Join_ok _ _ _ _ _ _ _ _ _ _ _ G_10 (G42.sl) (by omega) (by omega) (by omega)) ?_
      rintro _ w6 ⟨e6, q54, m54, d54, rfl, G54⟩
      have z6 := e6.size
      have E := E.trans e6
      replace G_10 := G_10.ext e6
      replace G_11 := G_11.ext e6
      replace G_12 := G_12.ext e6
      replace G42 := G42.ext e6
      replace J42 := J42.ext e6
      have lG54 := G54.len
      refine ov (xassign rfl) rfl rfl rfl ?_
      refine ops_nil ?_
      refine run_seq ?_
      refine run_region ?_
      refine ov (xmove rfl) rfl rfl rfl ?_
      refine ov (xmove rfl) rfl rfl rfl ?_
      refine oc (xcall Try.call70 rfl) rfl rfl rfl (l28Join_ok _ _ _ _ _ _ _ _ _ _ _ G_12 (J42.sl) (by omega) (by omega) (by omega)) ?_
      rintro _ w7 ⟨e7, q57, m57, d57, rfl, G57⟩
      have z7 := e7.size
      have E := E.trans e7
      replace G_10 := G_10.ext e7
      replace G_11 := G_11.ext e7
      replace G_12 := G_12.ext e7
      replace G42 := G42.ext e7
      replace J42 := J42.ext e7
      replace G54 := G54.ext e7
      have lG57 := G57.len
      refine ov (xassign rfl) rfl rfl rfl ?_
      refine ops_nil ?_
      refine run_seq ?_
      refine run_seq ?_
      refine run_region ?_
      refine ov (xmove rfl) rfl rfl rfl ?_
      refine ov (xnot rfl) rfl rfl rfl ?_
      refine ops_nil ?_
      refine run_cond_f rfl ?_
      refine run_skip ?_
      refine run_seq ?_
      refine run_region ?_
      refine ov (xmove rfl) rfl rfl rfl ?_
      refine oc (xcall Try.call68 rfl) rfl rfl rfl (l28Until_ok (untilT t 91).2.1 93 _ (by omega)) ?_
      rintro _ w8 ⟨rfl, e8⟩
      have z8 := e8.size
      have E := E.trans e8
      replace G_10 := G_10.ext e8
      replace G_11 := G_11.ext e8
      replace G_12 := G_12.ext e8
      replace G42 := G42.ext e8
      replace J42 := J42.ext e8
      replace G54 := G54.ext e8
      replace G57 := G57.ext e8
      refine ov (xmove rfl) rfl rfl rfl ?_
      refine ov (xextract rfl rfl) rfl rfl rfl ?_
      refine ov (xextract rfl rfl) rfl rfl rfl ?_
      refine ov (xextract rfl rfl) rfl rfl rfl ?_
      refine obs (fun c69 => ?_) (fun c69 => ?_)
      ·
        refine ov (xassign rfl) rfl rfl rfl ?_
        refine ov (xassign rfl) rfl rfl rfl ?_
        refine ov (xassign rfl) rfl rfl rfl ?_
        refine ops_nil ?_
        refine run_seq ?_
        refine run_region ?_
        refine ov (xmove rfl) rfl rfl rfl ?_
        refine oc (xcall Try.call68 rfl) rfl rfl rfl (l28Until_ok (untilT (untilT t 91).2.1 93).1 124 _ (by omega)) ?_
        rintro _ w9 ⟨rfl, e9⟩
        have z9 := e9.size
        have E := E.trans e9
        replace G_10 := G_10.ext e9
        replace G_11 := G_11.ext e9
        replace G_12 := G_12.ext e9
        replace G42 := G42.ext e9
        replace J42 := J42.ext e9
        replace G54 := G54.ext e9
        replace G57 := G57.ext e9
        refine ov (xmove rfl) rfl rfl rfl ?_
        refine ov (xextract rfl rfl) rfl rfl rfl ?_
        refine ov (xextract rfl rfl) rfl rfl rfl ?_
        refine ov (xextract rfl rfl) rfl rfl rfl ?_
        refine obs (fun c75 => ?_) (fun c75 => ?_)
        ·
          refine ov (xassign rfl) rfl rfl rfl ?_
          refine ov (xassign rfl) rfl rfl rfl ?_
          refine ov (xassign rfl) rfl rfl rfl ?_
          refine ops_nil ?_
          refine run_seq ?_
          refine run_region ?_
          refine ov (xmove rfl) rfl rfl rfl ?_
          refine ov (xmove rfl) rfl rfl rfl ?_
          refine oc (xcall Try.call69 rfl) rfl rfl rfl (l28Fill_ok ((untilT (untilT (untilT t 91).2.1 93).1 124).2.1) _ _ _ _ _ (H.ext E) (by omega) hv) ?_
          rintro _ w10 ⟨e10, q79, m79, d79, r79, k79, l79, rfl, G79, J79⟩
          have z10 := e10.size
          have E := E.trans e10
          replace G_10 := G_10.ext e10
          replace G_11 := G_11.ext e10
          replace G_12 := G_12.ext e10
          replace G42 := G42.ext e10
          replace J42 := J42.ext e10
          replace G54 := G54.ext e10
          replace G57 := G57.ext e10
          have lG79 := G79.len
          have lJ79 := J79.len
          refine ov (xmove rfl) rfl rfl rfl ?_
          refine ov (xextract rfl rfl) rfl rfl rfl ?_
          refine ov (xextract rfl rfl) rfl rfl rfl ?_
          refine ov (xextract rfl rfl) rfl rfl rfl ?_
          refine ov (xextract rfl rfl) rfl rfl rfl ?_
          refine obs (fun c83 => ?_) (fun c83 => ?_)
          ·
            refine ov (xassign rfl) rfl rfl rfl ?_
            refine ov (xassign rfl) rfl rfl rfl ?_
            refine ov (xassign rfl) rfl rfl rfl ?_
            refine ov (xassign rfl) rfl rfl rfl ?_
            refine ops_nil ?_
            refine run_seq ?_
            refine run_seq ?_
            refine run_region ?_
            refine ov (xmove rfl) rfl rfl rfl ?_
            refine ov (xnot rfl) rfl rfl rfl ?_
            refine ov (xmove rfl) rfl rfl rfl ?_
            refine ov (xmove rfl) rfl rfl rfl ?_
            refine ov (xnot rfl) rfl rfl rfl ?_
            refine ov (xpick_f rfl rfl) rfl rfl rfl ?_
            refine ov (xmove rfl) rfl rfl rfl ?_
            refine ov (xmove rfl) rfl rfl rfl ?_
            refine oc (xcall Try.call39 rfl) rfl rfl rfl (sIsWord_ok ((untilT (untilT (untilT t 91).2.1 93).1 124).1) _ (by first | assumption | omega)) ?_
            rintro _ w_ ⟨rfl, hw_⟩
            replace hw_ := hw_.symm
            subst hw_
            refine obs (fun c92 => ?_) (fun c92 => ?_)
            ·
              refine ov (xnot rfl) rfl rfl rfl ?_
              refine ov (xpick_f rfl rfl) rfl rfl rfl ?_
              refine ov (xmove rfl) rfl rfl rfl ?_
              refine ov (xmove rfl) rfl rfl rfl ?_
              refine ov (xnot rfl) rfl rfl rfl ?_
              refine ov (xpick_f rfl rfl) rfl rfl rfl ?_
              refine ops_nil ?_
              refine run_cond_f rfl ?_
              refine run_skip ?_
              refine run_seq ?_
              refine run_region ?_
              refine ov (xmove rfl) rfl rfl rfl ?_
              refine ov (xmove rfl) rfl rfl rfl ?_
              refine oc (xcall Try.call71 rfl) rfl rfl rfl (l13Insert_ok _ _ _ _ (untilT (untilT (untilT t 91).2.1 93).1 124).1 _ _ _ G_11 (by omega) (by omega) (by omega)) ?_
              rintro _ w11 ⟨e11, q101, m101, d101, rfl, G101⟩
              have z11 := e11.size
              have E := E.trans e11
              replace G_10 := G_10.ext e11
              replace G_11 := G_11.ext e11
              replace G_12 := G_12.ext e11
              replace G42 := G42.ext e11
              replace J42 := J42.ext e11
              replace G54 := G54.ext e11
              replace G57 := G57.ext e11
              replace G79 := G79.ext e11
              replace J79 := J79.ext e11
              have lG101 := G101.len
              refine ov (xassign rfl) rfl rfl rfl ?_
              refine ops_nil ?_
              refine run_seq ?_
              refine run_region ?_
              refine ov (xmove rfl) rfl rfl rfl ?_
              refine ov (xmove rfl) rfl rfl rfl ?_
              refine oc (xcall Try.call70 rfl) rfl rfl rfl (l28Join_ok _ _ _ _ _ _ _ _ _ _ _ G54 (G79.sl) (by omega) (by omega) (by omega)) ?_
              rintro _ w12 ⟨e12, q104, m104, d104, rfl, G104⟩
              have z12 := e12.size
              have E := E.trans e12
              replace G_10 := G_10.ext e12
              replace G_11 := G_11.ext e12
              replace G_12 := G_12.ext e12
              replace G42 := G42.ext e12
              replace J42 := J42.ext e12
              replace G54 := G54.ext e12
              replace G57 := G57.ext e12
              replace G79 := G79.ext e12
              replace J79 := J79.ext e12
              replace G101 := G101.ext e12
              have lG104 := G104.len
              refine ov (xassign rfl) rfl rfl rfl ?_
              refine ops_nil ?_
              refine run_seq ?_
              refine run_region ?_
              refine ov (xmove rfl) rfl rfl rfl ?_
              refine ov (xmove rfl) rfl rfl rfl ?_
              refine oc (xcall Try.call41 rfl) rfl rfl rfl (l28Find_ok _ _ _ _ (untilT (untilT (untilT t 91).2.1 93).1 124).1 _ (H.ext E)) ?_
              rintro _ w13 ⟨rfl, e13⟩
              have z13 := e13.size
              have E := E.trans e13
              replace G_10 := G_10.ext e13
              replace G_11 := G_11.ext e13
              replace G_12 := G_12.ext e13
              replace G42 := G42.ext e13
              replace J42 := J42.ext e13
              replace G54 := G54.ext e13
              replace G57 := G57.ext e13
              replace G79 := G79.ext e13
              replace J79 := J79.ext e13
              replace G101 := G101.ext e13
              replace G104 := G104.ext e13
              refine ov (xassign rfl) rfl rfl rfl ?_
              refine ops_nil ?_
              refine run_seq ?_
              refine run_seq ?_
              refine run_region ?_
              refine ov (xmove rfl) rfl rfl rfl ?_
              refine ov (xgeq rfl rfl _ rfl) rfl rfl rfl ?_
              refine ods (fun c109 => ?_) (fun c109 => ?_)
              ·
                obtain ⟨hk1, hk2, hk3⟩ := textOf_at (vs := vs) (n := (untilT (untilT (untilT t 91).2.1 93).1 124).1) (by omega)
                have htx := textOf_get (vs := vs) (n := (untilT (untilT (untilT t 91).2.1 93).1 124).1) (by omega) hk1
                refine ov (xmove rfl) rfl rfl rfl ?_
                refine ov (xmove rfl) rfl rfl rfl ?_
                refine ov (xmove rfl) rfl rfl rfl ?_
                have h113 := (H.ext E).at (i := (findV vs (untilT (untilT (untilT t 91).2.1 93).1 124).1).toNat) (by omega)
                refine ov (xindexN (i := (findV vs (untilT (untilT (untilT t 91).2.1 93).1 124).1).toNat) Try.underlying25 Try.sizeOf37 rfl rfl (by omega) ((H.ext E).p (i := (findV vs (untilT (untilT (untilT t 91).2.1 93).1 124).1).toNat) (by omega)) (by have := (H.ext E).len; omega)) rfl rfl rfl ?_
                refine ov (xfieldAddr fo37f1 rfl) rfl rfl rfl ?_
                refine ov (v := .string vs[(findV vs (untilT (untilT (untilT t 91).2.1 93).1 124).1).toNat].Text) (xload1 Try.isAgg9 rfl (h113) rfl) rfl rfl rfl ?_
                refine ov (xsneq rfl rfl _ rfl) rfl rfl rfl ?_
                refine ods (fun c116 => ?_) (fun c116 => ?_)
                ·
                  have ht1 : ¬ (textOf vs (untilT (untilT (untilT t 91).2.1 93).1 124).1).1 = ⟨#[]⟩ := by rw [htx]; exact c116
                  refine ov (xpick_t rfl rfl) rfl rfl rfl ?_
                  refine ops_nil ?_
                  refine run_cond_t rfl ?_
                  refine run_seq ?_
                  refine run_region ?_
                  refine ov (xmove rfl) rfl rfl rfl ?_
                  refine ov (xmove rfl) rfl rfl rfl ?_
                  refine ov (xsadd rfl rfl (by rw [ByteArray.size_append]; omega)) rfl rfl rfl ?_
                  refine ov (xassign rfl) rfl rfl rfl ?_
                  refine ops_nil ?_
                  refine run_region ?_
                  refine ov (xmove rfl) rfl rfl rfl ?_
                  refine ov (xmove rfl) rfl rfl rfl ?_
                  refine oc (xcall Try.call70 rfl) rfl rfl rfl (l28Join_ok _ _ _ _ _ _ _ _ _ _ _ G57 (J79.sl) (by omega) (by omega) (by omega)) ?_
                  rintro _ w14 ⟨e14, q123, m123, d123, rfl, G123⟩
                  have z14 := e14.size
                  have E := E.trans e14
                  replace G_10 := G_10.ext e14
                  replace G_11 := G_11.ext e14
                  replace G_12 := G_12.ext e14
                  replace G42 := G42.ext e14
                  replace J42 := J42.ext e14
                  replace G54 := G54.ext e14
                  replace G57 := G57.ext e14
                  replace G79 := G79.ext e14
                  replace J79 := J79.ext e14
                  replace G101 := G101.ext e14
                  replace G104 := G104.ext e14
                  have lG123 := G123.len
                  refine ov (xassign rfl) rfl rfl rfl ?_
                  refine ops_nil ?_
                  refine run_region ?_
                  refine ov (xmove rfl) rfl rfl rfl ?_
                  refine ov (xassign rfl) rfl rfl rfl ?_
                  refine ops_nil ?_
                  refine run_inBlock ?_
                  refine run_sub ?_ (hback2 ((untilT (untilT t 91).2.1 93).2.1, (o ++ ((fl vs (untilT t 91).1 f30).getD f30).1 ++ ((fl vs (untilT (untilT (untilT t 91).2.1 93).1 124).2.1 f30).getD f30).1), q104, m104, d104, (insAllT (insAllT ys_10 ((fl vs (untilT t 91).1 f30).getD f30).2.1) ((fl vs (untilT (untilT (untilT t 91).2.1 93).1 124).2.1 f30).getD f30).2.1), q101, m101, d101, (insT ys_11 (untilT (untilT (untilT t 91).2.1 93).1 124).1), q123, m123, d123, (insAllT (insAllT ys_12 ((fl vs (untilT t 91).1 f30).getD f30).2.2) ((fl vs (untilT (untilT (untilT t 91).2.1 93).1 124).2.1 f30).getD f30).2.2), w14) (⟨E, G104.wide (by omega) (by omega), by omega, G101.wide (by omega) (by omega), by omega, G123.wide (by omega) (by omega), by omega, by omega, by have := until_size c69; omega, by rw [hal, al_step c35 (by rw [headT_t c35]; exact c46) c69 c75 c92 c83, headT_t c35]; exact congrArg (al vs _) (secF_y ht1), by have := until_size c69; have := until_size c75; simp only [ByteArray.size_append]; omega, by have := until_size c69; have := until_size c75; omega, by have := until_size c69; have := until_size c75; omega, by have := until_size c69; have := until_size c75; omega⟩) (by have := until_size c69; have := until_size c75; dsimp only; omega))
                  exact ⟨rfl, rfl, rfl, rfl, rfl, rfl, trivial⟩
                ·
                  have ht0 : (textOf vs (untilT (untilT (untilT t 91).2.1 93).1 124).1).1 = ⟨#[]⟩ := by rw [htx]; exact Classical.not_not.1 c116
                  refine ov (xpick_t rfl rfl) rfl rfl rfl ?_
                  refine ops_nil ?_
                  refine run_cond_f rfl ?_
                  refine run_skip ?_
                  refine run_region ?_
                  refine ov (xmove rfl) rfl rfl rfl ?_
                  refine ov (xassign rfl) rfl rfl rfl ?_
                  refine ops_nil ?_
                  refine run_inBlock ?_
                  refine run_sub ?_ (hback2 ((untilT (untilT t 91).2.1 93).2.1, (o ++ ((fl vs (untilT t 91).1 f30).getD f30).1), q104, m104, d104, (insAllT (insAllT ys_10 ((fl vs (untilT t 91).1 f30).getD f30).2.1) ((fl vs (untilT (untilT (untilT t 91).2.1 93).1 124).2.1 f30).getD f30).2.1), q101, m101, d101, (insT ys_11 (untilT (untilT (untilT t 91).2.1 93).1 124).1), q57, m57, d57, (insAllT ys_12 ((fl vs (untilT t 91).1 f30).getD f30).2.2), w13) (⟨E, G104.wide (by omega) (by omega), by omega, G101.wide (by omega) (by omega), by omega, G57.wide (by omega) (by omega), by omega, by omega, by have := until_size c69; omega, by rw [hal, al_step c35 (by rw [headT_t c35]; exact c46) c69 c75 c92 c83, headT_t c35]; exact congrArg (al vs _) (secF_n ht0), by have := until_size c69; have := until_size c75; simp only [ByteArray.size_append]; omega, by have := until_size c69; have := until_size c75; omega, by have := until_size c69; have := until_size c75; omega, by have := until_size c69; have := until_size c75; omega⟩) (by have := until_size c69; have := until_size c75; dsimp only; omega))
                  exact ⟨rfl, rfl, rfl, rfl, rfl, rfl, trivial⟩
              ·
                have ht0 : (textOf vs (untilT (untilT (untilT t 91).2.1 93).1 124).1).1 = ⟨#[]⟩ := textOf_no (by omega)
                refine ov (xmove rfl) rfl rfl rfl ?_
                refine og rfl rfl rfl ?_
                refine og rfl rfl rfl ?_
                refine og rfl rfl rfl ?_
                refine og rfl rfl rfl ?_
                refine og rfl rfl rfl ?_
                refine og rfl rfl rfl ?_
                refine ov (xpick_f rfl rfl) rfl rfl rfl ?_
                refine ops_nil ?_
                refine run_cond_f rfl ?_
                refine run_skip ?_
                refine run_region ?_
                refine ov (xmove rfl) rfl rfl rfl ?_
                refine ov (xassign rfl) rfl rfl rfl ?_
                refine ops_nil ?_
                refine run_inBlock ?_
                refine run_sub ?_ (hback2 ((untilT (untilT t 91).2.1 93).2.1, (o ++ ((fl vs (untilT t 91).1 f30).getD f30).1), q104, m104, d104, (insAllT (insAllT ys_10 ((fl vs (untilT t 91).1 f30).getD f30).2.1) ((fl vs (untilT (untilT (untilT t 91).2.1 93).1 124).2.1 f30).getD f30).2.1), q101, m101, d101, (insT ys_11 (untilT (untilT (untilT t 91).2.1 93).1 124).1), q57, m57, d57, (insAllT ys_12 ((fl vs (untilT t 91).1 f30).getD f30).2.2), w13) (⟨E, G104.wide (by omega) (by omega), by omega, G101.wide (by omega) (by omega), by omega, G57.wide (by omega) (by omega), by omega, by omega, by have := until_size c69; omega, by rw [hal, al_step c35 (by rw [headT_t c35]; exact c46) c69 c75 c92 c83, headT_t c35]; exact congrArg (al vs _) (secF_n ht0), by have := until_size c69; have := until_size c75; simp only [ByteArray.size_append]; omega, by have := until_size c69; have := until_size c75; omega, by have := until_size c69; have := until_size c75; omega, by have := until_size c69; have := until_size c75; omega⟩) (by have := until_size c69; have := until_size c75; dsimp only; omega))
                exact ⟨rfl, rfl, rfl, rfl, rfl, rfl, trivial⟩
            ·
              refine ov (xnot rfl) rfl rfl rfl ?_
              refine ov (xpick_f rfl rfl) rfl rfl rfl ?_
              refine ov (xmove rfl) rfl rfl rfl ?_
              refine og rfl rfl rfl ?_
              refine og rfl rfl rfl ?_
              refine ov (xpick_t rfl rfl) rfl rfl rfl ?_
              refine ops_nil ?_
              refine run_cond_t rfl ?_
              refine run_seq ?_
              refine run_region ?_
              refine ov (xassign rfl) rfl rfl rfl ?_
              refine ov (xassign rfl) rfl rfl rfl ?_
              refine ov (xassign rfl) rfl rfl rfl ?_
              refine ov (xassign rfl) rfl rfl rfl ?_
              refine ov (xassign rfl) rfl rfl rfl ?_
              refine ops_nil ?_
              refine run_ret Try.func57 (res5 rfl rfl rfl rfl rfl rfl) ?_
              have he : al vs s f40 = none := by rw [hal, al_no2 c35 (by rintro ⟨h1_, h2_, h3_, h4_⟩; simp only [barT, bodyT] at h3_; simp [c92] at h3_)]
              exact ⟨_, rfl, E, none, 0, 0, none, 0, 0, none, 0, 0, by rw [he]; rfl, by rw [he]; exact Ow.none _ _ _ _ _ _, by rw [he]; exact Ow.none _ _ _ _ _ _, by rw [he]; exact Ow.none _ _ _ _ _ _⟩
          ·
            refine ov (xassign rfl) rfl rfl rfl ?_
            refine ov (xassign rfl) rfl rfl rfl ?_
            refine ov (xassign rfl) rfl rfl rfl ?_
            refine ov (xassign rfl) rfl rfl rfl ?_
            refine ops_nil ?_
            refine run_seq ?_
            refine run_seq ?_
            refine run_region ?_
            refine ov (xmove rfl) rfl rfl rfl ?_
            refine ov (xnot rfl) rfl rfl rfl ?_
            refine ov (xmove rfl) rfl rfl rfl ?_
            refine ov (xmove rfl) rfl rfl rfl ?_
            refine ov (xnot rfl) rfl rfl rfl ?_
            refine ov (xpick_f rfl rfl) rfl rfl rfl ?_
            refine ov (xmove rfl) rfl rfl rfl ?_
            refine ov (xmove rfl) rfl rfl rfl ?_
            refine oc (xcall Try.call39 rfl) rfl rfl rfl (sIsWord_ok ((untilT (untilT (untilT t 91).2.1 93).1 124).1) _ (by first | assumption | omega)) ?_
            rintro _ w_ ⟨rfl, hw_⟩
            replace hw_ := hw_.symm
            subst hw_
            refine obs (fun c92 => ?_) (fun c92 => ?_)
            ·
              refine ov (xnot rfl) rfl rfl rfl ?_
              refine ov (xpick_f rfl rfl) rfl rfl rfl ?_
              refine ov (xmove rfl) rfl rfl rfl ?_
              refine ov (xmove rfl) rfl rfl rfl ?_
              refine ov (xnot rfl) rfl rfl rfl ?_
              refine ov (xpick_f rfl rfl) rfl rfl rfl ?_
              refine ops_nil ?_
              refine run_cond_t rfl ?_
              refine run_seq ?_
              refine run_region ?_
              refine ov (xassign rfl) rfl rfl rfl ?_
              refine ov (xassign rfl) rfl rfl rfl ?_
              refine ov (xassign rfl) rfl rfl rfl ?_
              refine ov (xassign rfl) rfl rfl rfl ?_
              refine ov (xassign rfl) rfl rfl rfl ?_
              refine ops_nil ?_
              refine run_ret Try.func57 (res5 rfl rfl rfl rfl rfl rfl) ?_
              have he : al vs s f40 = none := by rw [hal, al_no2 c35 (by rintro ⟨h1_, h2_, h3_, h4_⟩; simp only [barT, bodyT] at h4_; simp [c83] at h4_)]
              exact ⟨_, rfl, E, none, 0, 0, none, 0, 0, none, 0, 0, by rw [he]; rfl, by rw [he]; exact Ow.none _ _ _ _ _ _, by rw [he]; exact Ow.none _ _ _ _ _ _, by rw [he]; exact Ow.none _ _ _ _ _ _⟩
            ·
              refine ov (xnot rfl) rfl rfl rfl ?_
              refine ov (xpick_f rfl rfl) rfl rfl rfl ?_
              refine ov (xmove rfl) rfl rfl rfl ?_
              refine og rfl rfl rfl ?_
              refine og rfl rfl rfl ?_
              refine ov (xpick_t rfl rfl) rfl rfl rfl ?_
              refine ops_nil ?_
              refine run_cond_t rfl ?_
              refine run_seq ?_
              refine run_region ?_
              refine ov (xassign rfl) rfl rfl rfl ?_
              refine ov (xassign rfl) rfl rfl rfl ?_
              refine ov (xassign rfl) rfl rfl rfl ?_
              refine ov (xassign rfl) rfl rfl rfl ?_
              refine ov (xassign rfl) rfl rfl rfl ?_
              refine ops_nil ?_
              refine run_ret Try.func57 (res5 rfl rfl rfl rfl rfl rfl) ?_
              have he : al vs s f40 = none := by rw [hal, al_no2 c35 (by rintro ⟨h1_, h2_, h3_, h4_⟩; simp only [barT, bodyT] at h3_; simp [c92] at h3_)]
              exact ⟨_, rfl, E, none, 0, 0, none, 0, 0, none, 0, 0, by rw [he]; rfl, by rw [he]; exact Ow.none _ _ _ _ _ _, by rw [he]; exact Ow.none _ _ _ _ _ _, by rw [he]; exact Ow.none _ _ _ _ _ _⟩
        ·
          refine ov (xassign rfl) rfl rfl rfl ?_
          refine ov (xassign rfl) rfl rfl rfl ?_
          refine ov (xassign rfl) rfl rfl rfl ?_
          refine ops_nil ?_
          refine run_seq ?_
          refine run_region ?_
          refine ov (xmove rfl) rfl rfl rfl ?_
          refine ov (xmove rfl) rfl rfl rfl ?_
          refine oc (xcall Try.call69 rfl) rfl rfl rfl (l28Fill_ok ((untilT (untilT (untilT t 91).2.1 93).1 124).2.1) _ _ _ _ _ (H.ext E) (by omega) hv) ?_
          rintro _ w10 ⟨e10, q79, m79, d79, r79, k79, l79, rfl, G79, J79⟩
          have z10 := e10.size
          have E := E.trans e10
          replace G_10 := G_10.ext e10
          replace G_11 := G_11.ext e10
          replace G_12 := G_12.ext e10
          replace G42 := G42.ext e10
          replace J42 := J42.ext e10
          replace G54 := G54.ext e10
          replace G57 := G57.ext e10
          have lG79 := G79.len
          have lJ79 := J79.len
          refine ov (xmove rfl) rfl rfl rfl ?_
          refine ov (xextract rfl rfl) rfl rfl rfl ?_
          refine ov (xextract rfl rfl) rfl rfl rfl ?_
          refine ov (xextract rfl rfl) rfl rfl rfl ?_
          refine ov (xextract rfl rfl) rfl rfl rfl ?_
          refine obs (fun c83 => ?_) (fun c83 => ?_)
          ·
            refine ov (xassign rfl) rfl rfl rfl ?_
            refine ov (xassign rfl) rfl rfl rfl ?_
            refine ov (xassign rfl) rfl rfl rfl ?_
            refine ov (xassign rfl) rfl rfl rfl ?_
            refine ops_nil ?_
            refine run_seq ?_
            refine run_seq ?_
            refine run_region ?_
            refine ov (xmove rfl) rfl rfl rfl ?_
            refine ov (xnot rfl) rfl rfl rfl ?_
            refine ov (xmove rfl) rfl rfl rfl ?_
            refine ov (xmove rfl) rfl rfl rfl ?_
            refine ov (xnot rfl) rfl rfl rfl ?_
            refine ov (xpick_f rfl rfl) rfl rfl rfl ?_
            refine ov (xmove rfl) rfl rfl rfl ?_
            refine og rfl rfl rfl ?_
            refine og rfl rfl rfl ?_
            refine og rfl rfl rfl ?_
            refine ov (xpick_t rfl rfl) rfl rfl rfl ?_
            refine ov (xmove rfl) rfl rfl rfl ?_
            refine og rfl rfl rfl ?_
            refine og rfl rfl rfl ?_
            refine ov (xpick_t rfl rfl) rfl rfl rfl ?_
            refine ops_nil ?_
            refine run_cond_t rfl ?_
            refine run_seq ?_
            refine run_region ?_
            refine ov (xassign rfl) rfl rfl rfl ?_
            refine ov (xassign rfl) rfl rfl rfl ?_
            refine ov (xassign rfl) rfl rfl rfl ?_
            refine ov (xassign rfl) rfl rfl rfl ?_
            refine ov (xassign rfl) rfl rfl rfl ?_
            refine ops_nil ?_
            refine run_ret Try.func57 (res5 rfl rfl rfl rfl rfl rfl) ?_
            have he : al vs s f40 = none := by rw [hal, al_no2 c35 (by rintro ⟨h1_, h2_, h3_, h4_⟩; simp only [barT, bodyT] at h2_; simp [c75] at h2_)]
            exact ⟨_, rfl, E, none, 0, 0, none, 0, 0, none, 0, 0, by rw [he]; rfl, by rw [he]; exact Ow.none _ _ _ _ _ _, by rw [he]; exact Ow.none _ _ _ _ _ _, by rw [he]; exact Ow.none _ _ _ _ _ _⟩
          ·
            refine ov (xassign rfl) rfl rfl rfl ?_
            refine ov (xassign rfl) rfl rfl rfl ?_
            refine ov (xassign rfl) rfl rfl rfl ?_
            refine ov (xassign rfl) rfl rfl rfl ?_
            refine ops_nil ?_
            refine run_seq ?_
            refine run_seq ?_
            refine run_region ?_
            refine ov (xmove rfl) rfl rfl rfl ?_
            refine ov (xnot rfl) rfl rfl rfl ?_
            refine ov (xmove rfl) rfl rfl rfl ?_
            refine ov (xmove rfl) rfl rfl rfl ?_
            refine ov (xnot rfl) rfl rfl rfl ?_
            refine ov (xpick_f rfl rfl) rfl rfl rfl ?_
            refine ov (xmove rfl) rfl rfl rfl ?_
            refine og rfl rfl rfl ?_
            refine og rfl rfl rfl ?_
            refine og rfl rfl rfl ?_
            refine ov (xpick_t rfl rfl) rfl rfl rfl ?_
            refine ov (xmove rfl) rfl rfl rfl ?_
            refine og rfl rfl rfl ?_
            refine og rfl rfl rfl ?_
            refine ov (xpick_t rfl rfl) rfl rfl rfl ?_
            refine ops_nil ?_
            refine run_cond_t rfl ?_
            refine run_seq ?_
            refine run_region ?_
            refine ov (xassign rfl) rfl rfl rfl ?_
            refine ov (xassign rfl) rfl rfl rfl ?_
            refine ov (xassign rfl) rfl rfl rfl ?_
            refine ov (xassign rfl) rfl rfl rfl ?_
            refine ov (xassign rfl) rfl rfl rfl ?_
            refine ops_nil ?_
            refine run_ret Try.func57 (res5 rfl rfl rfl rfl rfl rfl) ?_
            have he : al vs s f40 = none := by rw [hal, al_no2 c35 (by rintro ⟨h1_, h2_, h3_, h4_⟩; simp only [barT, bodyT] at h2_; simp [c75] at h2_)]
            exact ⟨_, rfl, E, none, 0, 0, none, 0, 0, none, 0, 0, by rw [he]; rfl, by rw [he]; exact Ow.none _ _ _ _ _ _, by rw [he]; exact Ow.none _ _ _ _ _ _, by rw [he]; exact Ow.none _ _ _ _ _ _⟩
      ·
        refine ov (xassign rfl) rfl rfl rfl ?_
        refine ov (xassign rfl) rfl rfl rfl ?_
        refine ov (xassign rfl) rfl rfl rfl ?_
        refine ops_nil ?_
        refine run_seq ?_
        refine run_region ?_
        refine ov (xmove rfl) rfl rfl rfl ?_
        refine oc (xcall Try.call68 rfl) rfl rfl rfl (l28Until_ok (untilT (untilT t 91).2.1 93).1 124 _ (by omega)) ?_
        rintro _ w9 ⟨rfl, e9⟩
        have z9 := e9.size
        have E := E.trans e9
        replace G_10 := G_10.ext e9
        replace G_11 := G_11.ext e9
        replace G_12 := G_12.ext e9
        replace G42 := G42.ext e9
        replace J42 := J42.ext e9
        replace G54 := G54.ext e9
        replace G57 := G57.ext e9
        refine ov (xmove rfl) rfl rfl rfl ?_
        refine ov (xextract rfl rfl) rfl rfl rfl ?_
        refine ov (xextract rfl rfl) rfl rfl rfl ?_
        refine ov (xextract rfl rfl) rfl rfl rfl ?_
        refine obs (fun c75 => ?_) (fun c75 => ?_)
        ·
          refine ov (xassign rfl) rfl rfl rfl ?_
          refine ov (xassign rfl) rfl rfl rfl ?_
          refine ov (xassign rfl) rfl rfl rfl ?_
          refine ops_nil ?_
          refine run_seq ?_
          refine run_region ?_
          refine ov (xmove rfl) rfl rfl rfl ?_
          refine ov (xmove rfl) rfl rfl rfl ?_
          refine oc (xcall Try.call69 rfl) rfl rfl rfl (l28Fill_ok ((untilT (untilT (untilT t 91).2.1 93).1 124).2.1) _ _ _ _ _ (H.ext E) (by omega) hv) ?_
          rintro _ w10 ⟨e10, q79, m79, d79, r79, k79, l79, rfl, G79, J79⟩
          have z10 := e10.size
          have E := E.trans e10
          replace G_10 := G_10.ext e10
          replace G_11 := G_11.ext e10
          replace G_12 := G_12.ext e10
          replace G42 := G42.ext e10
          replace J42 := J42.ext e10
          replace G54 := G54.ext e10
          replace G57 := G57.ext e10
          have lG79 := G79.len
          have lJ79 := J79.len
          refine ov (xmove rfl) rfl rfl rfl ?_
          refine ov (xextract rfl rfl) rfl rfl rfl ?_
          refine ov (xextract rfl rfl) rfl rfl rfl ?_
          refine ov (xextract rfl rfl) rfl rfl rfl ?_
          refine ov (xextract rfl rfl) rfl rfl rfl ?_
          refine obs (fun c83 => ?_) (fun c83 => ?_)
          ·
            refine ov (xassign rfl) rfl rfl rfl ?_
            refine ov (xassign rfl) rfl rfl rfl ?_
            refine ov (xassign rfl) rfl rfl rfl ?_
            refine ov (xassign rfl) rfl rfl rfl ?_
            refine ops_nil ?_
            refine run_seq ?_
            refine run_seq ?_
            refine run_region ?_
            refine ov (xmove rfl) rfl rfl rfl ?_
            refine ov (xnot rfl) rfl rfl rfl ?_
            refine ov (xmove rfl) rfl rfl rfl ?_
            refine og rfl rfl rfl ?_
            refine og rfl rfl rfl ?_
            refine ov (xpick_t rfl rfl) rfl rfl rfl ?_
            refine ov (xmove rfl) rfl rfl rfl ?_
            refine og rfl rfl rfl ?_
            refine og rfl rfl rfl ?_
            refine og rfl rfl rfl ?_
            refine ov (xpick_t rfl rfl) rfl rfl rfl ?_
            refine ov (xmove rfl) rfl rfl rfl ?_
            refine og rfl rfl rfl ?_
            refine og rfl rfl rfl ?_
            refine ov (xpick_t rfl rfl) rfl rfl rfl ?_
            refine ops_nil ?_
            refine run_cond_t rfl ?_
            refine run_seq ?_
            refine run_region ?_
            refine ov (xassign rfl) rfl rfl rfl ?_
            refine ov (xassign rfl) rfl rfl rfl ?_
            refine ov (xassign rfl) rfl rfl rfl ?_
            refine ov (xassign rfl) rfl rfl rfl ?_
            refine ov (xassign rfl) rfl rfl rfl ?_
            refine ops_nil ?_
            refine run_ret Try.func57 (res5 rfl rfl rfl rfl rfl rfl) ?_
            have he : al vs s f40 = none := by rw [hal, al_no2 c35 (by rintro ⟨h1_, h2_, h3_, h4_⟩; simp only [bodyT] at h1_; simp [c69] at h1_)]
            exact ⟨_, rfl, E, none, 0, 0, none, 0, 0, none, 0, 0, by rw [he]; rfl, by rw [he]; exact Ow.none _ _ _ _ _ _, by rw [he]; exact Ow.none _ _ _ _ _ _, by rw [he]; exact Ow.none _ _ _ _ _ _⟩
          ·
            refine ov (xassign rfl) rfl rfl rfl ?_
            refine ov (xassign rfl) rfl rfl rfl ?_
            refine ov (xassign rfl) rfl rfl rfl ?_
            refine ov (xassign rfl) rfl rfl rfl ?_
            refine ops_nil ?_
            refine run_seq ?_
            refine run_seq ?_
            refine run_region ?_
            refine ov (xmove rfl) rfl rfl rfl ?_
            refine ov (xnot rfl) rfl rfl rfl ?_
            refine ov (xmove rfl) rfl rfl rfl ?_
            refine og rfl rfl rfl ?_
            refine og rfl rfl rfl ?_
            refine ov (xpick_t rfl rfl) rfl rfl rfl ?_
            refine ov (xmove rfl) rfl rfl rfl ?_
            refine og rfl rfl rfl ?_
            refine og rfl rfl rfl ?_
            refine og rfl rfl rfl ?_
            refine ov (xpick_t rfl rfl) rfl rfl rfl ?_
            refine ov (xmove rfl) rfl rfl rfl ?_
            refine og rfl rfl rfl ?_
            refine og rfl rfl rfl ?_
            refine ov (xpick_t rfl rfl) rfl rfl rfl ?_
            refine ops_nil ?_
            refine run_cond_t rfl ?_
            refine run_seq ?_
            refine run_region ?_
            refine ov (xassign rfl) rfl rfl rfl ?_
            refine ov (xassign rfl) rfl rfl rfl ?_
            refine ov (xassign rfl) rfl rfl rfl ?_
            refine ov (xassign rfl) rfl rfl rfl ?_
            refine ov (xassign rfl) rfl rfl rfl ?_
            refine ops_nil ?_
            refine run_ret Try.func57 (res5 rfl rfl rfl rfl rfl rfl) ?_
            have he : al vs s f40 = none := by rw [hal, al_no2 c35 (by rintro ⟨h1_, h2_, h3_, h4_⟩; simp only [bodyT] at h1_; simp [c69] at h1_)]
            exact ⟨_, rfl, E, none, 0, 0, none, 0, 0, none, 0, 0, by rw [he]; rfl, by rw [he]; exact Ow.none _ _ _ _ _ _, by rw [he]; exact Ow.none _ _ _ _ _ _, by rw [he]; exact Ow.none _ _ _ _ _ _⟩
        ·
          refine ov (xassign rfl) rfl rfl rfl ?_
          refine ov (xassign rfl) rfl rfl rfl ?_
          refine ov (xassign rfl) rfl rfl rfl ?_
          refine ops_nil ?_
          refine run_seq ?_
          refine run_region ?_
          refine ov (xmove rfl) rfl rfl rfl ?_
          refine ov (xmove rfl) rfl rfl rfl ?_
          refine oc (xcall Try.call69 rfl) rfl rfl rfl (l28Fill_ok ((untilT (untilT (untilT t 91).2.1 93).1 124).2.1) _ _ _ _ _ (H.ext E) (by omega) hv) ?_
          rintro _ w10 ⟨e10, q79, m79, d79, r79, k79, l79, rfl, G79, J79⟩
          have z10 := e10.size
          have E := E.trans e10
          replace G_10 := G_10.ext e10
          replace G_11 := G_11.ext e10
          replace G_12 := G_12.ext e10
          replace G42 := G42.ext e10
          replace J42 := J42.ext e10
          replace G54 := G54.ext e10
          replace G57 := G57.ext e10
          have lG79 := G79.len
          have lJ79 := J79.len
          refine ov (xmove rfl) rfl rfl rfl ?_
          refine ov (xextract rfl rfl) rfl rfl rfl ?_
          refine ov (xextract rfl rfl) rfl rfl rfl ?_
          refine ov (xextract rfl rfl) rfl rfl rfl ?_
          refine ov (xextract rfl rfl) rfl rfl rfl ?_
          refine obs (fun c83 => ?_) (fun c83 => ?_)
          ·
            refine ov (xassign rfl) rfl rfl rfl ?_
            refine ov (xassign rfl) rfl rfl rfl ?_
            refine ov (xassign rfl) rfl rfl rfl ?_
            refine ov (xassign rfl) rfl rfl rfl ?_
            refine ops_nil ?_
            refine run_seq ?_
            refine run_seq ?_
            refine run_region ?_
            refine ov (xmove rfl) rfl rfl rfl ?_
            refine ov (xnot rfl) rfl rfl rfl ?_
            refine ov (xmove rfl) rfl rfl rfl ?_
            refine og rfl rfl rfl ?_
            refine og rfl rfl rfl ?_
            refine ov (xpick_t rfl rfl) rfl rfl rfl ?_
            refine ov (xmove rfl) rfl rfl rfl ?_
            refine og rfl rfl rfl ?_
            refine og rfl rfl rfl ?_
            refine og rfl rfl rfl ?_
            refine ov (xpick_t rfl rfl) rfl rfl rfl ?_
            refine ov (xmove rfl) rfl rfl rfl ?_
            refine og rfl rfl rfl ?_
            refine og rfl rfl rfl ?_
            refine ov (xpick_t rfl rfl) rfl rfl rfl ?_
            refine ops_nil ?_
            refine run_cond_t rfl ?_
            refine run_seq ?_
            refine run_region ?_
            refine ov (xassign rfl) rfl rfl rfl ?_
            refine ov (xassign rfl) rfl rfl rfl ?_
            refine ov (xassign rfl) rfl rfl rfl ?_
            refine ov (xassign rfl) rfl rfl rfl ?_
            refine ov (xassign rfl) rfl rfl rfl ?_
            refine ops_nil ?_
            refine run_ret Try.func57 (res5 rfl rfl rfl rfl rfl rfl) ?_
            have he : al vs s f40 = none := by rw [hal, al_no2 c35 (by rintro ⟨h1_, h2_, h3_, h4_⟩; simp only [bodyT] at h1_; simp [c69] at h1_)]
            exact ⟨_, rfl, E, none, 0, 0, none, 0, 0, none, 0, 0, by rw [he]; rfl, by rw [he]; exact Ow.none _ _ _ _ _ _, by rw [he]; exact Ow.none _ _ _ _ _ _, by rw [he]; exact Ow.none _ _ _ _ _ _⟩
          ·
            refine ov (xassign rfl) rfl rfl rfl ?_
            refine ov (xassign rfl) rfl rfl rfl ?_
            refine ov (xassign rfl) rfl rfl rfl ?_
            refine ov (xassign rfl) rfl rfl rfl ?_
            refine ops_nil ?_
            refine run_seq ?_
            refine run_seq ?_
            refine run_region ?_
            refine ov (xmove rfl) rfl rfl rfl ?_
            refine ov (xnot rfl) rfl rfl rfl ?_
            refine ov (xmove rfl) rfl rfl rfl ?_
            refine og rfl rfl rfl ?_
            refine og rfl rfl rfl ?_
            refine ov (xpick_t rfl rfl) rfl rfl rfl ?_
            refine ov (xmove rfl) rfl rfl rfl ?_
            refine og rfl rfl rfl ?_
            refine og rfl rfl rfl ?_
            refine og rfl rfl rfl ?_
            refine ov (xpick_t rfl rfl) rfl rfl rfl ?_
            refine ov (xmove rfl) rfl rfl rfl ?_
            refine og rfl rfl rfl ?_
            refine og rfl rfl rfl ?_
            refine ov (xpick_t rfl rfl) rfl rfl rfl ?_
            refine ops_nil ?_
            refine run_cond_t rfl ?_
            refine run_seq ?_
            refine run_region ?_
            refine ov (xassign rfl) rfl rfl rfl ?_
            refine ov (xassign rfl) rfl rfl rfl ?_
            refine ov (xassign rfl) rfl rfl rfl ?_
            refine ov (xassign rfl) rfl rfl rfl ?_
            refine ov (xassign rfl) rfl rfl rfl ?_
            refine ops_nil ?_
            refine run_ret Try.func57 (res5 rfl rfl rfl rfl rfl rfl) ?_
            have he : al vs s f40 = none := by rw [hal, al_no2 c35 (by rintro ⟨h1_, h2_, h3_, h4_⟩; simp only [bodyT] at h1_; simp [c69] at h1_)]
            exact ⟨_, rfl, E, none, 0, 0, none, 0, 0, none, 0, 0, by rw [he]; rfl, by rw [he]; exact Ow.none _ _ _ _ _ _, by rw [he]; exact Ow.none _ _ _ _ _ _, by rw [he]; exact Ow.none _ _ _ _ _ _⟩
    ·
      refine ov (xassign rfl) rfl rfl rfl ?_
      refine ov (xassign rfl) rfl rfl rfl ?_
      refine ov (xassign rfl) rfl rfl rfl ?_
      refine ov (xassign rfl) rfl rfl rfl ?_
      refine ops_nil ?_
      refine run_seq ?_
      refine run_seq ?_
      refine run_region ?_
      refine ov (xmove rfl) rfl rfl rfl ?_
      refine ov (xnot rfl) rfl rfl rfl ?_
      refine ops_nil ?_
      refine run_cond_t rfl ?_
      refine run_seq ?_
      refine run_region ?_
      refine ov (xassign rfl) rfl rfl rfl ?_
      refine ov (xassign rfl) rfl rfl rfl ?_
      refine ov (xassign rfl) rfl rfl rfl ?_
      refine ov (xassign rfl) rfl rfl rfl ?_
      refine ov (xassign rfl) rfl rfl rfl ?_
      refine ops_nil ?_
      refine run_ret Try.func57 (res5 rfl rfl rfl rfl rfl rfl) ?_
      have he : al vs s f40 = none := by rw [hal, al_no1 (by rw [headT_t c35]; exact c46)]
      exact ⟨_, rfl, E, none, 0, 0, none, 0, 0, none, 0, 0, by rw [he]; rfl, by rw [he]; exact Ow.none _ _ _ _ _ _, by rw [he]; exact Ow.none _ _ _ _ _ _, by rw [he]; exact Ow.none _ _ _ _ _ _⟩
  ·
    have hf42 := fl_size' hv t
    have hi54 := insAllT_len ys_10 ((fl vs t f30).getD f30).2.1
    have hi57 := insAllT_len ys_12 ((fl vs t f30).getD f30).2.2
    refine ov (xassign rfl) rfl rfl rfl ?_
    refine ov (xassign rfl) rfl rfl rfl ?_
    refine ov (xassign rfl) rfl rfl rfl ?_
    refine ops_nil ?_
    refine run_seq ?_
    refine run_seq ?_
    refine run_region ?_
    refine ov (xmove rfl) rfl rfl rfl ?_
    refine ov (xnot rfl) rfl rfl rfl ?_
    refine ops_nil ?_
    refine run_cond_t rfl ?_
    refine run_region ?_
    refine ov (xmove rfl) rfl rfl rfl ?_
    refine ov (xassign rfl) rfl rfl rfl ?_
    refine ops_nil ?_
    refine run_seq ?_
    refine run_region ?_
    refine ov (xmove rfl) rfl rfl rfl ?_
    refine ov (xmove rfl) rfl rfl rfl ?_
    refine oc (xcall Try.call69 rfl) rfl rfl rfl (l28Fill_ok (t) _ _ _ _ _ (H.ext E) (by omega) hv) ?_
    rintro _ w5 ⟨e5, q42, m42, d42, r42, k42, l42, rfl, G42, J42⟩
    have z5 := e5.size
    have E := E.trans e5
    replace G_10 := G_10.ext e5
    replace G_11 := G_11.ext e5
    replace G_12 := G_12.ext e5
    have lG42 := G42.len
    have lJ42 := J42.len
    refine ov (xmove rfl) rfl rfl rfl ?_
    refine ov (xextract rfl rfl) rfl rfl rfl ?_
    refine ov (xextract rfl rfl) rfl rfl rfl ?_
    refine ov (xextract rfl rfl) rfl rfl rfl ?_
    refine ov (xextract rfl rfl) rfl rfl rfl ?_
    refine obs (fun c46 => ?_) (fun c46 => ?_)
    ·
      refine ov (xassign rfl) rfl rfl rfl ?_
      refine ov (xassign rfl) rfl rfl rfl ?_
      refine ov (xassign rfl) rfl rfl rfl ?_
      refine ov (xassign rfl) rfl rfl rfl ?_
      refine ops_nil ?_
      refine run_seq ?_
      refine run_seq ?_
      refine run_region ?_
      refine ov (xmove rfl) rfl rfl rfl ?_
      refine ov (xnot rfl) rfl rfl rfl ?_
      refine ops_nil ?_
      refine run_cond_f rfl ?_
      refine run_skip ?_
      refine run_seq ?_
      refine run_region ?_
      refine ov (xmove rfl) rfl rfl rfl ?_
      refine ov (xmove rfl) rfl rfl rfl ?_
      refine ov (xsadd rfl rfl (by omega)) rfl rfl rfl ?_
      refine ov (xassign rfl) rfl rfl rfl ?_
      refine ops_nil ?_
      refine run_seq ?_
      refine run_region ?_
      refine ov (xmove rfl) rfl rfl rfl ?_
      refine ov (xmove rfl) rfl rfl rfl ?_
      refine oc (xcall Try.call70 rfl) rfl rfl rfl (l28Join_ok _ _ _ _ _ _ _ _ _ _ _ G_10 (G42.sl) (by omega) (by omega) (by omega)) ?_
      rintro _ w6 ⟨e6, q54, m54, d54, rfl, G54⟩
      have z6 := e6.size
      have E := E.trans e6
      replace G_10 := G_10.ext e6
      replace G_11 := G_11.ext e6
      replace G_12 := G_12.ext e6
      replace G42 := G42.ext e6
      replace J42 := J42.ext e6
      have lG54 := G54.len
      refine ov (xassign rfl) rfl rfl rfl ?_
      refine ops_nil ?_
      refine run_seq ?_
      refine run_region ?_
      refine ov (xmove rfl) rfl rfl rfl ?_
      refine ov (xmove rfl) rfl rfl rfl ?_
      refine oc (xcall Try.call70 rfl) rfl rfl rfl (l28Join_ok _ _ _ _ _ _ _ _ _ _ _ G_12 (J42.sl) (by omega) (by omega) (by omega)) ?_
      rintro _ w7 ⟨e7, q57, m57, d57, rfl, G57⟩
      have z7 := e7.size
      have E := E.trans e7
      replace G_10 := G_10.ext e7
      replace G_11 := G_11.ext e7
      replace G_12 := G_12.ext e7
      replace G42 := G42.ext e7
      replace J42 := J42.ext e7
      replace G54 := G54.ext e7
      have lG57 := G57.len
      refine ov (xassign rfl) rfl rfl rfl ?_
      refine ops_nil ?_
      refine run_seq ?_
      refine run_seq ?_
      refine run_region ?_
      refine ov (xmove rfl) rfl rfl rfl ?_
      refine ov (xnot rfl) rfl rfl rfl ?_
      refine ops_nil ?_
      refine run_cond_t rfl ?_
      refine run_seq ?_
      refine run_region ?_
      refine ov (xmove rfl) rfl rfl rfl ?_
      refine ov (xmove rfl) rfl rfl rfl ?_
      refine ov (xmove rfl) rfl rfl rfl ?_
      refine ov (xmove rfl) rfl rfl rfl ?_
      refine ov (xassign rfl) rfl rfl rfl ?_
      refine ov (xassign rfl) rfl rfl rfl ?_
      refine ov (xassign rfl) rfl rfl rfl ?_
      refine ov (xassign rfl) rfl rfl rfl ?_
      refine ov (xassign rfl) rfl rfl rfl ?_
      refine ops_nil ?_
      refine run_ret Try.func57 (res5 rfl rfl rfl rfl rfl rfl) ?_
      have he : al vs s f40 = some (joinF (o, ys_10, ys_11, ys_12) ((fl vs t f30).getD f30)) := by rw [hal, al_end c35 (by rw [headT_f c35]; exact c46), headT_f c35]
      exact ⟨_, rfl, E, _, _, _, _, _, _, _, _, _, by rw [he]; rfl, by rw [he]; exact G54.wide (by omega) (by omega), by rw [he]; exact G_11.wide (by omega) (by omega), by rw [he]; exact G57.wide (by omega) (by omega)⟩
    ·
      refine ov (xassign rfl) rfl rfl rfl ?_
      refine ov (xassign rfl) rfl rfl rfl ?_
      refine ov (xassign rfl) rfl rfl rfl ?_
      refine ov (xassign rfl) rfl rfl rfl ?_
      refine ops_nil ?_
      refine run_seq ?_
      refine run_seq ?_
      refine run_region ?_
      refine ov (xmove rfl) rfl rfl rfl ?_
      refine ov (xnot rfl) rfl rfl rfl ?_
      refine ops_nil ?_
      refine run_cond_t rfl ?_
      refine run_seq ?_
      refine run_region ?_
      refine ov (xassign rfl) rfl rfl rfl ?_
      refine ov (xassign rfl) rfl rfl rfl ?_
      refine ov (xassign rfl) rfl rfl rfl ?_
      refine ov (xassign rfl) rfl rfl rfl ?_
      refine ov (xassign rfl) rfl rfl rfl ?_
      refine ops_nil ?_
      refine run_ret Try.func57 (res5 rfl rfl rfl rfl rfl rfl) ?_
      have he : al vs s f40 = none := by rw [hal, al_no1 (by rw [headT_f c35]; exact c46)]
      exact ⟨_, rfl, E, none, 0, 0, none, 0, 0, none, 0, 0, by rw [he]; rfl, by rw [he]; exact Ow.none _ _ _ _ _ _, by rw [he]; exact Ow.none _ _ _ _ _ _, by rw [he]; exact Ow.none _ _ _ _ _ _⟩

theorem sl_nil {α : Type} (enc : α → List Value) (sz : Nat) (w : World) : Sl enc sz w none 0 0 [] := (Ow.none enc sz 0 w 0 0).sl
theorem nil_small : ∀ (i : Nat) (h : i < ([] : List Val).length), ([] : List Val)[i].Text.size ≤ 1048576 := fun i h => absurd h (Nat.not_lt_zero i)
theorem rtI_al {s : ByteArray} (h : asc s) (h2 : s.size ≤ 600) : rtI s = rt s := by
  rw [rtI, if_pos]
  simp only [isPlain, Bool.and_eq_true, decide_eq_true_eq]
  exact ⟨h, by omega⟩
theorem rtI_long {s : ByteArray} (h : ¬ s.size ≤ 600) : rtI s = none := by
  rw [rtI, if_neg]
  simp only [isPlain, Bool.and_eq_true, decide_eq_true_eq]
  omega
theorem rtI_bad {s : ByteArray} (h : ¬ asc s) : rtI s = none := by
  rw [rtI, if_neg]
  simp only [isPlain, Bool.and_eq_true]
  exact fun k => h k.1
def isTpl (s : ByteArray) : Bool := (rtI s).isSome
theorem isTpl_al {s : ByteArray} (h : asc s) (h2 : s.size ≤ 600) (vs : List Val) : (al vs s f40).isSome = isTpl s := by
  rw [isTpl, rtI_al h h2, al_all vs h]; cases rt s <;> rfl
theorem isTpl_asc {s : ByteArray} (h : isTpl s = true) : asc s ∧ s.size ≤ 600 := by
  refine ⟨Classical.byContradiction fun k => ?_, Classical.byContradiction fun k => ?_⟩
  · rw [isTpl, rtI_bad k] at h; cases h
  · rw [isTpl, rtI_long k] at h; cases h
def namesOf (f : TP → List ByteArray) (s : ByteArray) : List ByteArray × Int := match rtI s with
  | none => ([], 6)
  | some l => (srtS (l.flatMap f), 0)
def sectionsOf (s : ByteArray) : List ByteArray × Int := namesOf sectN s
def placesOf (s : ByteArray) : List ByteArray × Int := namesOf (stepP fun _ => true) s
theorem names_no {f : TP → List ByteArray} {s : ByteArray} (h : isTpl s = false) : namesOf f s = ([], 6) := by
  rw [namesOf]
  cases e : rtI s with
  | none => rfl
  | some l => rw [isTpl, e] at h; cases h
theorem isTpl_some {s : ByteArray} (h : isTpl s = true) : ∃ l, rtI s = some l := by
  rw [isTpl] at h; exact Option.isSome_iff_exists.1 h
theorem al_of {s : ByteArray} {l : List TP} (h : rtI s = some l) (vs : List Val) : (al vs s f40).getD f40 = (catT (l.map (fillZ vs)), srtS (l.flatMap (stepP fun _ => true)), srtS (l.flatMap sectN), srtS ((l.flatMap (stepP (accV vs))).filter (lacks vs))) := by
  have hi : isTpl s = true := by rw [isTpl, h]; rfl
  obtain ⟨h1, h2⟩ := isTpl_asc hi
  rw [al_all vs h1, ← rtI_al h1 h2, h]; rfl
theorem places_al {s : ByteArray} (h : isTpl s = true) (vs : List Val) : placesOf s = (((al vs s f40).getD f40).2.1, 0) := by
  obtain ⟨l, hl⟩ := isTpl_some h
  rw [al_of hl, placesOf, namesOf, hl]
theorem sections_al {s : ByteArray} (h : isTpl s = true) (vs : List Val) : sectionsOf s = (((al vs s f40).getD f40).2.2.1, 0) := by
  obtain ⟨l, hl⟩ := isTpl_some h
  rw [al_of hl, sectionsOf, namesOf, hl]
/-- a filled template -/
def fillT (s : ByteArray) (vs : List Val) : ByteArray × Int := if isTpl s = false then (⟨#[]⟩, 6) else if areValues vs = false then (⟨#[]⟩, 1) else
  if 0 < ((al vs s f40).getD f40).2.2.2.length then (⟨#[]⟩, 4) else (((al vs s f40).getD f40).1, 0)
def tplCode (s : ByteArray) (vs : List Val) : Int := if isTpl s = false then 6 else if areValues vs = false then 1 else 0
theorem asc_below {s : ByteArray} {k : Nat} (hk : k = s.size) (h : ∀ j, j < k → 32 ≤ bAt s j ∧ bAt s j ≤ 126) : asc s := by
  subst hk; exact asc_iff.2 h

set_option maxHeartbeats 2000000 in
theorem sIsTemplate_ok (s : ByteArray) (w : World) (hs : s.size ≤ 1048576) : Ret Try.prog 28 [.string s] w (Pv w (.bool (isTpl s))) := by
  refine ret_of_run (N := 39) Try.func28 rfl rfl rfl ?_
  have E : Ext w w := Ext.refl w
  refine run_seq ?_
  refine run_region ?_
  refine ov (xassign rfl) rfl rfl rfl ?_
  refine ops_nil ?_
  refine run_seq ?_
  refine run_seq ?_
  refine run_region ?_
  refine ov (xassign rfl) rfl rfl rfl ?_
  refine ops_nil ?_
  refine run_block ?_
  refine run_loop (ι := Nat × World) (fun x_ => match x_ with | (k, wr) => (Ext w wr) ∧ (w.heap.size ≤ wr.heap.size) ∧ (k ≤ s.size) ∧ (∀ j, j < k → 32 ≤ bAt s j ∧ bAt s j ≤ 126)) (fun x_ => match x_ with | (k, wr) => [(0, .string s), (3, .int .i64 (k : Int))]) (fun x_ => match x_ with | (k, wr) => wr) (fun x_ => match x_ with | (k, wr) => s.size - k) ?_ (0, w) (⟨E, Nat.le_refl _, by omega, fun j h => absurd h (Nat.not_lt_zero j)⟩) ⟨rfl, rfl, trivial⟩ rfl
  intro i_ hI_ hback2
  obtain ⟨k, wr⟩ := i_
  obtain ⟨E, lz_wr, hk, ha⟩ := hI_
  try dsimp only
  have zr := E.size
  refine run_seq ?_
  refine run_seq ?_
  refine run_region ?_
  refine ov (xmove rfl) rfl rfl rfl ?_
  refine ov (xmove rfl) rfl rfl rfl ?_
  refine ov (xlens Try.underlying9 rfl) rfl rfl rfl ?_
  refine ov (xlss rfl rfl _ rfl) rfl rfl rfl ?_
  refine ods (fun c12 => ?_) (fun c12 => ?_)
  ·
    refine ops_nil ?_
    refine run_cond_t rfl ?_
    refine run_skip ?_
    refine run_seq ?_
    refine run_block ?_
    refine run_seq ?_
    refine run_region ?_
    refine ov (xmove rfl) rfl rfl rfl ?_
    refine ov (xmove rfl) rfl rfl rfl ?_
    refine ov (v := .int .u8 (bAt s k : Int)) (xindexS (i := k) Try.underlying9 rfl rfl rfl (by omega)) rfl rfl rfl ?_
    refine ov (xlss rfl rfl _ rfl) rfl rfl rfl ?_
    refine ods (fun c18 => ?_) (fun c18 => ?_)
    ·
      refine ov (xmove rfl) rfl rfl rfl ?_
      refine og rfl rfl rfl ?_
      refine og rfl rfl rfl ?_
      refine og rfl rfl rfl ?_
      refine og rfl rfl rfl ?_
      refine ov (xpick_t rfl rfl) rfl rfl rfl ?_
      refine ops_nil ?_
      refine run_cond_t rfl ?_
      refine run_seq ?_
      refine run_region ?_
      refine ov (xassign rfl) rfl rfl rfl ?_
      refine ops_nil ?_
      refine run_ret Try.func28 (res1 rfl rfl) ?_
      have hb : ¬ asc s := fun h => by have := asc_iff.1 h k (by omega); omega
      exact ⟨_, rfl, by rw [isTpl, rtI_bad hb]; rfl, E⟩
    ·
      refine ov (xmove rfl) rfl rfl rfl ?_
      refine ov (xmove rfl) rfl rfl rfl ?_
      refine ov (xmove rfl) rfl rfl rfl ?_
      refine ov (v := .int .u8 (bAt s k : Int)) (xindexS (i := k) Try.underlying9 rfl rfl rfl (by omega)) rfl rfl rfl ?_
      refine ov (xgtr rfl rfl _ rfl) rfl rfl rfl ?_
      refine ods (fun c23 => ?_) (fun c23 => ?_)
      ·
        refine ov (xpick_f rfl rfl) rfl rfl rfl ?_
        refine ops_nil ?_
        refine run_cond_t rfl ?_
        refine run_seq ?_
        refine run_region ?_
        refine ov (xassign rfl) rfl rfl rfl ?_
        refine ops_nil ?_
        refine run_ret Try.func28 (res1 rfl rfl) ?_
        have hb : ¬ asc s := fun h => by have := asc_iff.1 h k (by omega); omega
        exact ⟨_, rfl, by rw [isTpl, rtI_bad hb]; rfl, E⟩
      ·
        refine ov (xpick_f rfl rfl) rfl rfl rfl ?_
        refine ops_nil ?_
        refine run_cond_f rfl ?_
        refine run_skip ?_
        refine run_inBlock ?_
        refine run_region ?_
        refine ov (xmove rfl) rfl rfl rfl ?_
        refine ov (xadd rfl rfl (by unfold I64; omega)) rfl rfl rfl ?_
        refine ov (xassign rfl) rfl rfl rfl ?_
        refine ops_nil ?_
        refine run_sub ?_ (hback2 (k + 1, wr) (⟨E, by omega, by omega, fun j hj => by
          rcases Nat.lt_or_ge j k with h3 | h3
          · exact ha j h3
          · obtain rfl : j = k := by omega
            omega⟩) (by first | omega | (dsimp only; omega)))
        exact ⟨rfl, rfl, trivial⟩
  ·
    have hasc : asc s := asc_below (by omega : k = s.size) ha
    refine ops_nil ?_
    refine run_cond_f rfl ?_
    refine run_exit rfl ?_
    refine run_seq ?_
    refine run_region ?_
    refine ov (xmove rfl) rfl rfl rfl ?_
    refine oc (xcall Try.call57 rfl) rfl rfl rfl (l28All_ok s _ _ _ [] _ (sl_nil _ _ _) (by omega) nil_small) ?_
    rintro _ w1 ⟨e1, q27, m27, d27, r27, k27, l27, x27, y27, u27, rfl, G27, J27, K27⟩
    have z1 := e1.size
    have E := E.trans e1
    have lG27 := G27.len
    have lJ27 := J27.len
    have lK27 := K27.len
    refine ov (xmove rfl) rfl rfl rfl ?_
    refine ov (xextract rfl rfl) rfl rfl rfl ?_
    refine ov (xextract rfl rfl) rfl rfl rfl ?_
    refine ov (xextract rfl rfl) rfl rfl rfl ?_
    refine ov (xextract rfl rfl) rfl rfl rfl ?_
    refine ov (xextract rfl rfl) rfl rfl rfl ?_
    refine obs (fun c32 => ?_) (fun c32 => ?_)
    ·
      refine ov (xassign rfl) rfl rfl rfl ?_
      refine ov (xassign rfl) rfl rfl rfl ?_
      refine ov (xassign rfl) rfl rfl rfl ?_
      refine ov (xassign rfl) rfl rfl rfl ?_
      refine ov (xassign rfl) rfl rfl rfl ?_
      refine ops_nil ?_
      refine run_seq ?_
      refine run_region ?_
      refine ov (xmove rfl) rfl rfl rfl ?_
      refine ov (xmove rfl) rfl rfl rfl ?_
      refine ov (xmove rfl) rfl rfl rfl ?_
      refine ov (xlens Try.underlying9 rfl) rfl rfl rfl ?_
      refine ov (xleq rfl rfl _ rfl) rfl rfl rfl ?_
      refine ov (xpick_t rfl rfl) rfl rfl rfl ?_
      refine ov (xassign rfl) rfl rfl rfl ?_
      refine ops_nil ?_
      refine run_ret Try.func28 (res1 rfl rfl) ?_
      by_cases hz : s.size ≤ 600
      · exact ⟨_, rfl, by rw [← isTpl_al hasc hz [], c32]; exact congrArg Value.bool (decide_eq_true (by omega)), E⟩
      · exact ⟨_, rfl, by rw [isTpl, rtI_long hz]; exact congrArg Value.bool (decide_eq_false (by omega)), E⟩
    ·
      refine ov (xassign rfl) rfl rfl rfl ?_
      refine ov (xassign rfl) rfl rfl rfl ?_
      refine ov (xassign rfl) rfl rfl rfl ?_
      refine ov (xassign rfl) rfl rfl rfl ?_
      refine ov (xassign rfl) rfl rfl rfl ?_
      refine ops_nil ?_
      refine run_seq ?_
      refine run_region ?_
      refine ov (xmove rfl) rfl rfl rfl ?_
      refine ov (xmove rfl) rfl rfl rfl ?_
      refine og rfl rfl rfl ?_
      refine og rfl rfl rfl ?_
      refine og rfl rfl rfl ?_
      refine ov (xpick_f rfl rfl) rfl rfl rfl ?_
      refine ov (xassign rfl) rfl rfl rfl ?_
      refine ops_nil ?_
      refine run_ret Try.func28 (res1 rfl rfl) ?_
      by_cases hz : s.size ≤ 600
      · exact ⟨_, rfl, by rw [← isTpl_al hasc hz [], c32], E⟩
      · exact ⟨_, rfl, by rw [isTpl, rtI_long hz]; rfl, E⟩

set_option maxHeartbeats 2000000 in
theorem sSectionsOf_ok (s : ByteArray) (w : World) (hs : s.size ≤ 1048576) : Ret Try.prog 30 [.string s] w (fun v w' => Ext w w' ∧ ∃ q m d, v = .tuple #[.slice q m d, .int .i64 (sectionsOf s).2] ∧ Ow strc 1 9 w' w.heap.size w'.heap.size q m d (sectionsOf s).1) := by
  refine ret_of_run (N := 21) Try.func30 rfl rfl rfl ?_
  have E : Ext w w := Ext.refl w
  refine run_seq ?_
  refine run_region ?_
  refine ov (xassign rfl) rfl rfl rfl ?_
  refine ov (xassign rfl) rfl rfl rfl ?_
  refine ops_nil ?_
  refine run_seq ?_
  refine run_seq ?_
  refine run_region ?_
  refine ov (xmove rfl) rfl rfl rfl ?_
  refine oc (xcall Try.call28 rfl) rfl rfl rfl (sIsTemplate_ok (s) _ (by omega)) ?_
  rintro _ w1 ⟨rfl, e1⟩
  have z1 := e1.size
  have E := E.trans e1
  refine obs (fun c10 => ?_) (fun c10 => ?_)
  ·
    refine ov (xnot rfl) rfl rfl rfl ?_
    refine ops_nil ?_
    refine run_cond_f rfl ?_
    refine run_skip ?_
    refine run_seq ?_
    refine run_region ?_
    refine ov (xmove rfl) rfl rfl rfl ?_
    refine oc (xcall Try.call57 rfl) rfl rfl rfl (l28All_ok s _ _ _ [] _ (sl_nil _ _ _) (by omega) nil_small) ?_
    rintro _ w2 ⟨e2, q14, m14, d14, r14, k14, l14, x14, y14, u14, rfl, G14, J14, K14⟩
    have z2 := e2.size
    have E := E.trans e2
    have lG14 := G14.len
    have lJ14 := J14.len
    have lK14 := K14.len
    refine ov (xmove rfl) rfl rfl rfl ?_
    refine ov (xextract rfl rfl) rfl rfl rfl ?_
    refine ov (xextract rfl rfl) rfl rfl rfl ?_
    refine ov (xextract rfl rfl) rfl rfl rfl ?_
    refine ov (xextract rfl rfl) rfl rfl rfl ?_
    refine ov (xextract rfl rfl) rfl rfl rfl ?_
    refine ov (xassign rfl) rfl rfl rfl ?_
    refine ov (xassign rfl) rfl rfl rfl ?_
    refine ov (xassign rfl) rfl rfl rfl ?_
    refine ov (xassign rfl) rfl rfl rfl ?_
    refine ov (xassign rfl) rfl rfl rfl ?_
    refine ops_nil ?_
    refine run_seq ?_
    refine run_region ?_
    refine ov (xmove rfl) rfl rfl rfl ?_
    refine ov (xassign rfl) rfl rfl rfl ?_
    refine ov (xassign rfl) rfl rfl rfl ?_
    refine ops_nil ?_
    refine run_ret Try.func30 (res2 rfl rfl rfl) ?_
    have he := sections_al c10 []
    exact ⟨_, rfl, E, _, _, _, by rw [he], by rw [he]; exact J14.wide (by omega) (by omega)⟩
  ·
    refine ov (xnot rfl) rfl rfl rfl ?_
    refine ops_nil ?_
    refine run_cond_t rfl ?_
    refine run_seq ?_
    refine run_region ?_
    refine ov (xassign rfl) rfl rfl rfl ?_
    refine ov (xassign rfl) rfl rfl rfl ?_
    refine ops_nil ?_
    refine run_ret Try.func30 (res2 rfl rfl rfl) ?_
    have he : sectionsOf s = ([], 6) := names_no c10
    exact ⟨_, rfl, E, none, 0, 0, by rw [he], by rw [he]; exact Ow.none _ _ _ _ _ _⟩

set_option maxHeartbeats 2000000 in
theorem sPlacesOf_ok (s : ByteArray) (w : World) (hs : s.size ≤ 1048576) : Ret Try.prog 35 [.string s] w (fun v w' => Ext w w' ∧ ∃ q m d, v = .tuple #[.slice q m d, .int .i64 (placesOf s).2] ∧ Ow strc 1 9 w' w.heap.size w'.heap.size q m d (placesOf s).1) := by
  refine ret_of_run (N := 21) Try.func35 rfl rfl rfl ?_
  have E : Ext w w := Ext.refl w
  refine run_seq ?_
  refine run_region ?_
  refine ov (xassign rfl) rfl rfl rfl ?_
  refine ov (xassign rfl) rfl rfl rfl ?_
  refine ops_nil ?_
  refine run_seq ?_
  refine run_seq ?_
  refine run_region ?_
  refine ov (xmove rfl) rfl rfl rfl ?_
  refine oc (xcall Try.call28 rfl) rfl rfl rfl (sIsTemplate_ok (s) _ (by omega)) ?_
  rintro _ w1 ⟨rfl, e1⟩
  have z1 := e1.size
  have E := E.trans e1
  refine obs (fun c10 => ?_) (fun c10 => ?_)
  ·
    refine ov (xnot rfl) rfl rfl rfl ?_
    refine ops_nil ?_
    refine run_cond_f rfl ?_
    refine run_skip ?_
    refine run_seq ?_
    refine run_region ?_
    refine ov (xmove rfl) rfl rfl rfl ?_
    refine oc (xcall Try.call57 rfl) rfl rfl rfl (l28All_ok s _ _ _ [] _ (sl_nil _ _ _) (by omega) nil_small) ?_
    rintro _ w2 ⟨e2, q14, m14, d14, r14, k14, l14, x14, y14, u14, rfl, G14, J14, K14⟩
    have z2 := e2.size
    have E := E.trans e2
    have lG14 := G14.len
    have lJ14 := J14.len
    have lK14 := K14.len
    refine ov (xmove rfl) rfl rfl rfl ?_
    refine ov (xextract rfl rfl) rfl rfl rfl ?_
    refine ov (xextract rfl rfl) rfl rfl rfl ?_
    refine ov (xextract rfl rfl) rfl rfl rfl ?_
    refine ov (xextract rfl rfl) rfl rfl rfl ?_
    refine ov (xextract rfl rfl) rfl rfl rfl ?_
    refine ov (xassign rfl) rfl rfl rfl ?_
    refine ov (xassign rfl) rfl rfl rfl ?_
    refine ov (xassign rfl) rfl rfl rfl ?_
    refine ov (xassign rfl) rfl rfl rfl ?_
    refine ov (xassign rfl) rfl rfl rfl ?_
    refine ops_nil ?_
    refine run_seq ?_
    refine run_region ?_
    refine ov (xmove rfl) rfl rfl rfl ?_
    refine ov (xassign rfl) rfl rfl rfl ?_
    refine ov (xassign rfl) rfl rfl rfl ?_
    refine ops_nil ?_
    refine run_ret Try.func35 (res2 rfl rfl rfl) ?_
    have he := places_al c10 []
    exact ⟨_, rfl, E, _, _, _, by rw [he], by rw [he]; exact G14.wide (by omega) (by omega)⟩
  ·
    refine ov (xnot rfl) rfl rfl rfl ?_
    refine ops_nil ?_
    refine run_cond_t rfl ?_
    refine run_seq ?_
    refine run_region ?_
    refine ov (xassign rfl) rfl rfl rfl ?_
    refine ov (xassign rfl) rfl rfl rfl ?_
    refine ops_nil ?_
    refine run_ret Try.func35 (res2 rfl rfl rfl) ?_
    have he : placesOf s = ([], 6) := names_no c10
    exact ⟨_, rfl, E, none, 0, 0, by rw [he], by rw [he]; exact Ow.none _ _ _ _ _ _⟩

set_option maxHeartbeats 400000 in
theorem l28Code_ok (s : ByteArray) (p : Option Addr) (n c : Nat) (vs : List Val) (w : World) (H : Sl Val.cells 2 w p n c vs) (hs : s.size ≤ 1048576) (hx : ∀ x ∈ vs, x.ok) : Ret Try.prog 62 [.string s, .slice p n c] w (Pv w (.int .i64 (tplCode s vs))) := by
  refine ret_of_run (N := 11) Try.func62 rfl rfl rfl ?_
  have hn := H.len
  have E : Ext w w := Ext.refl w
  refine run_seq ?_
  refine run_region ?_
  refine ov (xassign rfl) rfl rfl rfl ?_
  refine ops_nil ?_
  refine run_seq ?_
  refine run_seq ?_
  refine run_region ?_
  refine ov (xmove rfl) rfl rfl rfl ?_
  refine oc (xcall Try.call28 rfl) rfl rfl rfl (sIsTemplate_ok (s) _ (by omega)) ?_
  rintro _ w1 ⟨rfl, e1⟩
  have z1 := e1.size
  have E := E.trans e1
  refine obs (fun c6 => ?_) (fun c6 => ?_)
  ·
    refine ov (xnot rfl) rfl rfl rfl ?_
    refine ops_nil ?_
    refine run_cond_f rfl ?_
    refine run_skip ?_
    refine run_seq ?_
    refine run_seq ?_
    refine run_region ?_
    refine ov (xmove rfl) rfl rfl rfl ?_
    refine oc (xcall Try.call12 rfl) rfl rfl rfl (sAreValues_ok _ _ _ _ _ (H.ext E) (by assumption)) ?_
    rintro _ w2 ⟨rfl, e2⟩
    have z2 := e2.size
    have E := E.trans e2
    refine obs (fun c9 => ?_) (fun c9 => ?_)
    ·
      refine ov (xnot rfl) rfl rfl rfl ?_
      refine ops_nil ?_
      refine run_cond_f rfl ?_
      refine run_skip ?_
      refine run_seq ?_
      refine run_region ?_
      refine ov (xassign rfl) rfl rfl rfl ?_
      refine ops_nil ?_
      refine run_ret Try.func62 (res1 rfl rfl) ?_
      exact ⟨_, rfl, by rw [tplCode, if_neg (by simp [c6]), if_neg (by simp [c9])], E⟩
    ·
      refine ov (xnot rfl) rfl rfl rfl ?_
      refine ops_nil ?_
      refine run_cond_t rfl ?_
      refine run_seq ?_
      refine run_region ?_
      refine ov (xassign rfl) rfl rfl rfl ?_
      refine ops_nil ?_
      refine run_ret Try.func62 (res1 rfl rfl) ?_
      exact ⟨_, rfl, by rw [tplCode, if_neg (by simp [c6]), if_pos c9], E⟩
  ·
    refine ov (xnot rfl) rfl rfl rfl ?_
    refine ops_nil ?_
    refine run_cond_t rfl ?_
    refine run_seq ?_
    refine run_region ?_
    refine ov (xassign rfl) rfl rfl rfl ?_
    refine ops_nil ?_
    refine run_ret Try.func62 (res1 rfl rfl) ?_
    exact ⟨_, rfl, by rw [tplCode, if_pos c6], E⟩

theorem code_zero {s : ByteArray} {vs : List Val} (h : tplCode s vs = 0) : ¬ isTpl s = false ∧ ¬ areValues vs = false := by
  unfold tplCode at h
  by_cases h1 : isTpl s = false
  · rw [if_pos h1] at h; cases h
  · by_cases h2 : areValues vs = false
    · rw [if_neg h1, if_pos h2] at h; cases h
    · exact ⟨h1, h2⟩
theorem fill_code {s : ByteArray} {vs : List Val} (h : tplCode s vs ≠ 0) : fillT s vs = (⟨#[]⟩, tplCode s vs) := by
  unfold tplCode at h
  rw [fillT, tplCode]
  by_cases h1 : isTpl s = false
  · rw [if_pos h1, if_pos h1]
  · by_cases h2 : areValues vs = false
    · rw [if_neg h1, if_neg h1, if_pos h2, if_pos h2]
    · rw [if_neg h1, if_neg h2] at h; exact absurd rfl h
theorem fill_no {s : ByteArray} {vs : List Val} (h : tplCode s vs = 0) (h2 : 0 < ((al vs s f40).getD f40).2.2.2.length) : fillT s vs = (⟨#[]⟩, 4) := by
  obtain ⟨a, b⟩ := code_zero h
  rw [fillT, if_neg a, if_neg b, if_pos h2]
theorem fill_yes {s : ByteArray} {vs : List Val} (h : tplCode s vs = 0) (h2 : ¬ 0 < ((al vs s f40).getD f40).2.2.2.length) : fillT s vs = (((al vs s f40).getD f40).1, 0) := by
  obtain ⟨a, b⟩ := code_zero h
  rw [fillT, if_neg a, if_neg b, if_neg h2]

set_option maxHeartbeats 2000000 in
theorem sFillTemplate_ok (s : ByteArray) (p : Option Addr) (n c : Nat) (vs : List Val) (w : World) (H : Sl Val.cells 2 w p n c vs) (hs : s.size ≤ 1048576) (hv : ∀ (i : Nat) (h : i < vs.length), vs[i].Text.size ≤ 1048576) (hx : ∀ x ∈ vs, x.ok) : Ret Try.prog 37 [.string s, .slice p n c] w (Pv w (.tuple #[.string (fillT s vs).1, .int .i64 (fillT s vs).2])) := by
  refine ret_of_run (N := 35) Try.func37 rfl rfl rfl ?_
  have hn := H.len
  have E : Ext w w := Ext.refl w
  refine run_seq ?_
  refine run_region ?_
  refine ov (xassign rfl) rfl rfl rfl ?_
  refine ov (xassign rfl) rfl rfl rfl ?_
  refine ops_nil ?_
  refine run_seq ?_
  refine run_region ?_
  refine ov (xmove rfl) rfl rfl rfl ?_
  refine ov (xmove rfl) rfl rfl rfl ?_
  refine oc (xcall Try.call62 rfl) rfl rfl rfl (l28Code_ok (s) _ _ _ _ _ (H.ext E) (by omega) (by assumption)) ?_
  rintro _ w1 ⟨rfl, e1⟩
  have z1 := e1.size
  have E := E.trans e1
  refine ov (xassign rfl) rfl rfl rfl ?_
  refine ops_nil ?_
  refine run_seq ?_
  refine run_region ?_
  refine ov (xmove rfl) rfl rfl rfl ?_
  refine ov (xmove rfl) rfl rfl rfl ?_
  refine oc (xcall Try.call57 rfl) rfl rfl rfl (l28All_ok (s) _ _ _ _ _ (H.ext E) (by omega) hv) ?_
  rintro _ w2 ⟨e2, q18, m18, d18, r18, k18, l18, x18, y18, u18, rfl, G18, J18, K18⟩
  have z2 := e2.size
  have E := E.trans e2
  have lG18 := G18.len
  have lJ18 := J18.len
  have lK18 := K18.len
  refine ov (xmove rfl) rfl rfl rfl ?_
  refine ov (xextract rfl rfl) rfl rfl rfl ?_
  refine ov (xextract rfl rfl) rfl rfl rfl ?_
  refine ov (xextract rfl rfl) rfl rfl rfl ?_
  refine ov (xextract rfl rfl) rfl rfl rfl ?_
  refine ov (xextract rfl rfl) rfl rfl rfl ?_
  refine ov (xassign rfl) rfl rfl rfl ?_
  refine ov (xassign rfl) rfl rfl rfl ?_
  refine ov (xassign rfl) rfl rfl rfl ?_
  refine ov (xassign rfl) rfl rfl rfl ?_
  refine ov (xassign rfl) rfl rfl rfl ?_
  refine ops_nil ?_
  refine run_seq ?_
  refine run_seq ?_
  refine run_region ?_
  refine ov (xmove rfl) rfl rfl rfl ?_
  refine ov (xeql rfl rfl _ rfl) rfl rfl rfl ?_
  refine ods (fun c25 => ?_) (fun c25 => ?_)
  ·
    refine ov (xmove rfl) rfl rfl rfl ?_
    refine ov (xmove rfl) rfl rfl rfl ?_
    refine ov (xlen Try.underlying48 rfl) rfl rfl rfl ?_
    refine ov (xgtr rfl rfl _ rfl) rfl rfl rfl ?_
    refine ods (fun c29 => ?_) (fun c29 => ?_)
    ·
      refine ov (xpick_t rfl rfl) rfl rfl rfl ?_
      refine ops_nil ?_
      refine run_cond_t rfl ?_
      refine run_region ?_
      refine ov (xassign rfl) rfl rfl rfl ?_
      refine ops_nil ?_
      refine run_seq ?_
      refine run_seq ?_
      refine run_region ?_
      refine ov (xmove rfl) rfl rfl rfl ?_
      refine ov (xneq rfl rfl _ rfl) rfl rfl rfl ?_
      refine ods (fun c32 => ?_) (fun c32 => ?_)
      ·
        refine ops_nil ?_
        refine run_cond_t rfl ?_
        refine run_seq ?_
        refine run_region ?_
        refine ov (xmove rfl) rfl rfl rfl ?_
        refine ov (xassign rfl) rfl rfl rfl ?_
        refine ov (xassign rfl) rfl rfl rfl ?_
        refine ops_nil ?_
        refine run_ret Try.func37 (res2 rfl rfl rfl) ?_
        exact ⟨_, rfl, by rw [fill_no (by omega) (by omega)], E⟩
      · exfalso; omega
    ·
      refine ov (xpick_t rfl rfl) rfl rfl rfl ?_
      refine ops_nil ?_
      refine run_cond_f rfl ?_
      refine run_skip ?_
      refine run_seq ?_
      refine run_seq ?_
      refine run_region ?_
      refine ov (xmove rfl) rfl rfl rfl ?_
      refine ov (xneq rfl rfl _ rfl) rfl rfl rfl ?_
      refine ods (fun c32 => ?_) (fun c32 => ?_)
      ·
        refine ops_nil ?_
        refine run_cond_t rfl ?_
        refine run_seq ?_
        refine run_region ?_
        refine ov (xmove rfl) rfl rfl rfl ?_
        refine ov (xassign rfl) rfl rfl rfl ?_
        refine ov (xassign rfl) rfl rfl rfl ?_
        refine ops_nil ?_
        refine run_ret Try.func37 (res2 rfl rfl rfl) ?_
        exfalso; omega
      ·
        refine ops_nil ?_
        refine run_cond_f rfl ?_
        refine run_skip ?_
        refine run_seq ?_
        refine run_region ?_
        refine ov (xmove rfl) rfl rfl rfl ?_
        refine ov (xassign rfl) rfl rfl rfl ?_
        refine ov (xassign rfl) rfl rfl rfl ?_
        refine ops_nil ?_
        refine run_ret Try.func37 (res2 rfl rfl rfl) ?_
        exact ⟨_, rfl, by rw [fill_yes (by omega) (by omega)], E⟩
  ·
    refine ov (xmove rfl) rfl rfl rfl ?_
    refine og rfl rfl rfl ?_
    refine og rfl rfl rfl ?_
    refine og rfl rfl rfl ?_
    refine ov (xpick_f rfl rfl) rfl rfl rfl ?_
    refine ops_nil ?_
    refine run_cond_f rfl ?_
    refine run_skip ?_
    refine run_seq ?_
    refine run_seq ?_
    refine run_region ?_
    refine ov (xmove rfl) rfl rfl rfl ?_
    refine ov (xneq rfl rfl _ rfl) rfl rfl rfl ?_
    refine ods (fun c32 => ?_) (fun c32 => ?_)
    ·
      refine ops_nil ?_
      refine run_cond_t rfl ?_
      refine run_seq ?_
      refine run_region ?_
      refine ov (xmove rfl) rfl rfl rfl ?_
      refine ov (xassign rfl) rfl rfl rfl ?_
      refine ov (xassign rfl) rfl rfl rfl ?_
      refine ops_nil ?_
      refine run_ret Try.func37 (res2 rfl rfl rfl) ?_
      exact ⟨_, rfl, by rw [fill_code (by omega)], E⟩
    ·
      refine ops_nil ?_
      refine run_cond_f rfl ?_
      refine run_skip ?_
      refine run_seq ?_
      refine run_region ?_
      refine ov (xmove rfl) rfl rfl rfl ?_
      refine ov (xassign rfl) rfl rfl rfl ?_
      refine ov (xassign rfl) rfl rfl rfl ?_
      refine ops_nil ?_
      refine run_ret Try.func37 (res2 rfl rfl rfl) ?_
      exfalso; omega
end Go.Proofs.Ytgbedilaiefcbaa
