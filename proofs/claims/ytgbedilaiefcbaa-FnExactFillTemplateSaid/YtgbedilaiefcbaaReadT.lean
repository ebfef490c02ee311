/-
  The parts of a template. No condition beyond those written in each theorem.
-/
import Derived.Test.YtgbedilaiefcbaaReadP
namespace Go.Proofs.Ytgbedilaiefcbaa
open Go.RowKit
set_option linter.unusedVariables false
set_option linter.unusedSimpArgs false
set_option linter.unusedSectionVars false
set_option maxRecDepth 4000

theorem cutT_sum {s : ByteArray} {b : Nat} (h : (cutT s b).2.2 = true) : (cutT s b).1.size + (cutT s b).2.1.size + 1 = s.size := by
  unfold cutT at h ⊢
  split
  · rename_i h1; simp only [tail1, ByteArray.size_extract]; omega
  · rename_i h1; rw [if_neg h1] at h; cases h
theorem rt_ok {t : ByteArray} {l i : List PP} (h1 : rp (cutT t 91).1 = some l) (h2 : (cutT t 91).2.2 = true) (h3 : (cutT (cutT t 91).2.1 93).2.2 = true) (h4 : (cutT (cutT (cutT t 91).2.1 93).1 124).2.2 = true) (h5 : isWord (cutT (cutT (cutT t 91).2.1 93).1 124).1 = true) (h6 : rp (cutT (cutT (cutT t 91).2.1 93).1 124).2.1 = some i) :
    rt t = (rt (cutT (cutT t 91).2.1 93).2.1).map fun r => (l.map TP.of ++ [⟨⟨#[]⟩, (cutT (cutT (cutT t 91).2.1 93).1 124).1, true, i⟩]) ++ r := by
  rw [rt_cut, h1, Option.bind_some, if_pos h2, if_pos ⟨h3, h4, h5⟩, h6, Option.bind_some]
  congr 1; funext r; simp
theorem rt_end {t : ByteArray} {l : List PP} (h1 : rp (cutT t 91).1 = some l) (h2 : (cutT t 91).2.2 = false) : rt t = some (l.map TP.of) := by
  rw [rt_cut, h1, Option.bind_some, if_neg (by simp [h2])]
theorem rt_no1 {t : ByteArray} (h1 : (rp (cutT t 91).1).isSome = false) : rt t = none := by
  rw [rt_cut]
  cases h : rp (cutT t 91).1 with
  | none => rfl
  | some l => rw [h] at h1; cases h1
theorem rt_no2 {t : ByteArray} (h2 : (cutT t 91).2.2 = true) (h : ¬ ((cutT (cutT t 91).2.1 93).2.2 = true ∧ (cutT (cutT (cutT t 91).2.1 93).1 124).2.2 = true ∧ isWord (cutT (cutT (cutT t 91).2.1 93).1 124).1 = true ∧ (rp (cutT (cutT (cutT t 91).2.1 93).1 124).2.1).isSome = true)) : rt t = none := by
  rw [rt_cut]
  cases rp (cutT t 91).1 with
  | none => rfl
  | some l =>
    rw [Option.bind_some, if_pos h2]
    by_cases h3 : (cutT (cutT t 91).2.1 93).2.2 = true ∧ (cutT (cutT (cutT t 91).2.1 93).1 124).2.2 = true ∧ isWord (cutT (cutT (cutT t 91).2.1 93).1 124).1 = true
    · rw [if_pos h3]
      cases h4 : rp (cutT (cutT (cutT t 91).2.1 93).1 124).2.1 with
      | none => rfl
      | some i => exact absurd ⟨h3.1, h3.2.1, h3.2.2, by rw [h4]; rfl⟩ h
    · rw [if_neg h3]
theorem rp_len : ∀ (f : Nat) (t : ByteArray), t.size < f → ((rp t).getD []).length ≤ 2 * t.size
  | 0, t, h => by omega
  | f + 1, t, h => by
    by_cases h0 : t.size = 0
    · rw [rp_empty h0]; simp
    · by_cases h1 : at1 sp5 t < t.size
      · by_cases h3 : bAt t (at1 sp5 t) = 123 ∧ at1 (isB 125) (tail1 t (at1 sp5 t)) < (tail1 t (at1 sp5 t)).size ∧ isWord ((tail1 t (at1 sp5 t)).extract 0 (at1 (isB 125) (tail1 t (at1 sp5 t)))) = true
        · rw [rp_step h0 h1 h3]
          have a := tail1_size t h1
          have b := tail1_size _ h3.2.1
          have c := rp_len f (tail1 (tail1 t (at1 sp5 t)) (at1 (isB 125) (tail1 t (at1 sp5 t)))) (by omega)
          cases he : rp (tail1 (tail1 t (at1 sp5 t)) (at1 (isB 125) (tail1 t (at1 sp5 t)))) with
          | none => simp
          | some l => rw [he] at c; simp only [Option.map_some, Option.getD_some, List.length_append, List.length_cons, List.length_nil] at c ⊢; omega
        · rw [rp_wrong h0 h1 h3]; simp
      · rw [rp_text h0 h1]; simp; omega
theorem rp_len' (t : ByteArray) : ((rp t).getD []).length ≤ 2 * t.size := rp_len _ t (Nat.lt_succ_self _)
theorem some_getD {l : Option (List PP)} (h : l.isSome = true) : l = some (l.getD []) := by cases l with
  | none => cases h
  | some a => rfl

attribute [local irreducible] at1 fstB cutT rp rt isWord tail1 ixT

set_option maxHeartbeats 8000000 in
theorem readTemplate_ok (s : ByteArray) (w : World) (hs : s.size ≤ 1048576) (hm : Hm w) : Ret Try.prog 58 [.string s] w (fun v w' => Ext w w' ∧ ∃ q m d ys, v = .tuple #[.slice q m d, .bool (rtI s).isSome] ∧ Ow Pt.cells 4 77 w' w.heap.size w'.heap.size q m d ys ∧ Ins 77 w' w.heap.size w'.heap.size ys ((rtI s).getD [])) := by
  refine ret_of_run (N := 78) Try.func58 rfl rfl rfl ?_
  have E : Ext w w := Ext.refl w
  refine run_seq ?_
  refine run_region ?_
  refine ov (xassign rfl) rfl rfl rfl ?_
  refine ov (xassign rfl) rfl rfl rfl ?_
  refine ops_nil ?_
  refine run_seq ?_
  refine run_seq ?_
  refine run_region ?_
  refine ov (xmove rfl) rfl rfl rfl ?_
  refine oc (xcall Try.call43 rfl) rfl rfl rfl (isPlain_ok _ (600) _ (by omega)) ?_
  rintro _ w1 ⟨rfl, e1⟩
  have z1 := e1.size
  have E := E.trans e1
  refine obs (fun c17 => ?_) (fun c17 => ?_)
  ·
    obtain ⟨hasc, hs6⟩ := isPlain_asc c17
    refine ov (xnot rfl) rfl rfl rfl ?_
    refine ops_nil ?_
    refine run_cond_f rfl ?_
    refine run_skip ?_
    refine run_seq ?_
    refine run_region ?_
    refine obuild (cs := []) (sz := 4) Try.underlying73 inf77 rfl rfl (by decide) rfl rfl (by simp [Value.cells]) rfl rfl rfl ?_
    intro b2 w2 e2 hb2 hz2 O2
    have E := E.trans e2
    have G2 : Ow Pt.cells 4 77 w2 b2 (b2 + 1) (some ⟨b2, 0, none⟩) 0 0 ([] : List Pt) := Own.ow (by simpa [Pt.cells] using O2) rfl (by omega) (Nat.le_refl _) (by omega) (by intro x hx; rfl)
    refine ov (xassign rfl) rfl rfl rfl ?_
    refine ops_nil ?_
    refine run_block ?_
    refine run_loop (ι := ByteArray × List TP × Option Addr × Nat × Nat × List Pt × World) (fun x_ => match x_ with | (t, zs, q_4, m_4, c_4, ys_4, wr) => (Ext w wr) ∧ (Ins 77 wr w.heap.size wr.heap.size ys_4 zs) ∧ (Ow Pt.cells 4 77 wr b2 wr.heap.size q_4 m_4 c_4 ys_4) ∧ (b2 ≤ wr.heap.size) ∧ (w2.heap.size ≤ wr.heap.size) ∧ (t.size ≤ s.size) ∧ (asc t) ∧ (rt s = (rt t).map (fun l => zs ++ l)) ∧ (Apart q_4 ys_4) ∧ (ys_4.length + 4 * t.size ≤ 4 * s.size)) (fun x_ => match x_ with | (t, zs, q_4, m_4, c_4, ys_4, wr) => [(0, .string t), (4, .slice q_4 m_4 c_4)]) (fun x_ => match x_ with | (t, zs, q_4, m_4, c_4, ys_4, wr) => wr) (fun x_ => match x_ with | (t, zs, q_4, m_4, c_4, ys_4, wr) => t.size) ?_ (s, [], (some ⟨b2, 0, none⟩), 0, 0, [], w2) (⟨E, trivial, G2.wide (by omega) (by omega), by omega, Nat.le_refl _, by omega, hasc, (by simp), Apart.nil _, (by simp)⟩) ⟨rfl, rfl, trivial⟩ rfl
    intro i_ hI_ hback4
    obtain ⟨t, zs, q_4, m_4, c_4, ys_4, wr⟩ := i_
    obtain ⟨E, I_4, G_4, lo_4, lz_wr, hts, hpt, hrt, hsep, hlz⟩ := hI_
    try dsimp only
    have zr := E.size
    have lg_4 := G_4.len
    have hc1 := cutT_le t 91
    have hc2 := cutT_le (cutT t 91).2.1 93
    have hc3 := cutT_le (cutT (cutT t 91).2.1 93).1 124
    have hl1 := rp_len' (cutT t 91).1
    refine run_block ?_
    refine run_seq ?_
    refine run_region ?_
    refine ov (xmove rfl) rfl rfl rfl ?_
    refine oc (xcall Try.call72 rfl) rfl rfl rfl (CutB_ok t 91 91 _ (by omega) (hm.ext E) rfl) ?_
    rintro _ w3 ⟨rfl, e3⟩
    have z3 := e3.size
    have E := E.trans e3
    replace G_4 := G_4.ext e3
    replace I_4 := I_4.ext e3
    refine ov (xmove rfl) rfl rfl rfl ?_
    refine ov (xextract rfl rfl) rfl rfl rfl ?_
    refine ov (xextract rfl rfl) rfl rfl rfl ?_
    refine ov (xextract rfl rfl) rfl rfl rfl ?_
    refine obs (fun c25 => ?_) (fun c25 => ?_)
    ·
      refine ov (xassign rfl) rfl rfl rfl ?_
      refine ov (xassign rfl) rfl rfl rfl ?_
      refine ov (xassign rfl) rfl rfl rfl ?_
      refine ops_nil ?_
      refine run_seq ?_
      refine run_region ?_
      refine ov (xmove rfl) rfl rfl rfl ?_
      refine oc (xcall Try.call73 rfl) rfl rfl rfl (readPlaces_ok (cutT t 91).1 _ (by omega) ((asc_cut hpt 91).1) (hm.ext E)) ?_
      rintro _ w4 ⟨e4, q28, m28, d28, rfl, G28⟩
      have z4 := e4.size
      have E := E.trans e4
      replace G_4 := G_4.ext e4
      replace I_4 := I_4.ext e4
      have lG28 := G28.len
      rw [List.length_map] at lG28
      refine ov (xmove rfl) rfl rfl rfl ?_
      refine ov (xextract rfl rfl) rfl rfl rfl ?_
      refine ov (xextract rfl rfl) rfl rfl rfl ?_
      refine obs (fun c30 => ?_) (fun c30 => ?_)
      ·
        refine ov (xassign rfl) rfl rfl rfl ?_
        refine ov (xassign rfl) rfl rfl rfl ?_
        refine ops_nil ?_
        refine run_seq ?_
        refine run_seq ?_
        refine run_region ?_
        refine ov (xmove rfl) rfl rfl rfl ?_
        refine ov (xnot rfl) rfl rfl rfl ?_
        refine ops_nil ?_
        refine run_cond_f rfl ?_
        refine run_skip ?_
        refine run_seq ?_
        refine run_region ?_
        refine ov (xmove rfl) rfl rfl rfl ?_
        refine ov (xmove rfl) rfl rfl rfl ?_
        have hmv35 := fun q_ h_ => Apart.move (q' := q_) hsep I_4 h_
        refine oapp2 (bytes := 64) (nm := (m_4 + m28)) G_4 rfl rfl elem77 (G28.sl) (ow_nil G28) (by intro y hy; rfl) (by intro y hy u hu; obtain ⟨y_, _, rfl⟩ := List.mem_map.1 hy; simp only [Pt.cells, Pt.pp, List.mem_cons, List.not_mem_nil, or_false] at hu; rcases hu with rfl | rfl | rfl | rfl <;> rfl) (by omega) (by omega) (by omega) (by omega) rfl rfl ?_
        intro p5 c5_ w5 m5 k5 hat35 G5
        have hh5 := hend_le q_4
        have hz5 := m5.size
        have E := m5.toExt E (by omega)
        replace I_4 := I_4.move hsep k5
        replace G28 := (by first | exact G28.off m5 (by omega) | exact G28.off k5 (by omega))
        replace hsep := (hmv35 _ hat35).app (Apart.pps _ ((rp (cutT t 91).1).getD []))
        replace I_4 := (I_4.wide (hi' := w5.heap.size) (Nat.le_refl _) (by omega)).app (Ins.pps ((rp (cutT t 91).1).getD []))
        refine ov (xassign rfl) rfl rfl rfl ?_
        refine ops_nil ?_
        refine run_seq ?_
        refine run_seq ?_
        refine run_region ?_
        refine ov (xmove rfl) rfl rfl rfl ?_
        refine ov (xnot rfl) rfl rfl rfl ?_
        refine ops_nil ?_
        refine run_cond_f rfl ?_
        refine run_skip ?_
        refine run_seq ?_
        refine run_region ?_
        refine ov (xmove rfl) rfl rfl rfl ?_
        refine oc (xcall Try.call72 rfl) rfl rfl rfl (CutB_ok (cutT t 91).2.1 93 93 _ (by omega) (hm.ext E) rfl) ?_
        rintro _ w6 ⟨rfl, e6⟩
        have z6 := e6.size
        have E := E.trans e6
        replace I_4 := I_4.ext e6
        replace G28 := G28.ext e6
        replace G5 := G5.ext e6
        refine ov (xmove rfl) rfl rfl rfl ?_
        refine ov (xextract rfl rfl) rfl rfl rfl ?_
        refine ov (xextract rfl rfl) rfl rfl rfl ?_
        refine ov (xextract rfl rfl) rfl rfl rfl ?_
        refine obs (fun c44 => ?_) (fun c44 => ?_)
        ·
          refine ov (xassign rfl) rfl rfl rfl ?_
          refine ov (xassign rfl) rfl rfl rfl ?_
          refine ov (xassign rfl) rfl rfl rfl ?_
          refine ops_nil ?_
          refine run_seq ?_
          refine run_region ?_
          refine ov (xmove rfl) rfl rfl rfl ?_
          refine oc (xcall Try.call72 rfl) rfl rfl rfl (CutB_ok (cutT (cutT t 91).2.1 93).1 124 124 _ (by omega) (hm.ext E) rfl) ?_
          rintro _ w7 ⟨rfl, e7⟩
          have z7 := e7.size
          have E := E.trans e7
          replace I_4 := I_4.ext e7
          replace G28 := G28.ext e7
          replace G5 := G5.ext e7
          refine ov (xmove rfl) rfl rfl rfl ?_
          refine ov (xextract rfl rfl) rfl rfl rfl ?_
          refine ov (xextract rfl rfl) rfl rfl rfl ?_
          refine ov (xextract rfl rfl) rfl rfl rfl ?_
          refine obs (fun c50 => ?_) (fun c50 => ?_)
          ·
            refine ov (xassign rfl) rfl rfl rfl ?_
            refine ov (xassign rfl) rfl rfl rfl ?_
            refine ov (xassign rfl) rfl rfl rfl ?_
            refine ops_nil ?_
            refine run_seq ?_
            refine run_region ?_
            refine ov (xmove rfl) rfl rfl rfl ?_
            refine oc (xcall Try.call73 rfl) rfl rfl rfl (readPlaces_ok (cutT (cutT (cutT t 91).2.1 93).1 124).2.1 _ (by omega) ((asc_cut (asc_cut (asc_cut hpt 91).2 93).1 124).2) (hm.ext E)) ?_
            rintro _ w8 ⟨e8, q53, m53, d53, rfl, G53⟩
            have z8 := e8.size
            have E := E.trans e8
            replace I_4 := I_4.ext e8
            replace G28 := G28.ext e8
            replace G5 := G5.ext e8
            have lG53 := G53.len
            rw [List.length_map] at lG53
            refine ov (xmove rfl) rfl rfl rfl ?_
            refine ov (xextract rfl rfl) rfl rfl rfl ?_
            refine ov (xextract rfl rfl) rfl rfl rfl ?_
            refine obs (fun c55 => ?_) (fun c55 => ?_)
            ·
              refine ov (xassign rfl) rfl rfl rfl ?_
              refine ov (xassign rfl) rfl rfl rfl ?_
              refine ops_nil ?_
              refine run_seq ?_
              refine run_seq ?_
              refine run_region ?_
              refine ov (xmove rfl) rfl rfl rfl ?_
              refine ov (xnot rfl) rfl rfl rfl ?_
              refine ov (xmove rfl) rfl rfl rfl ?_
              refine ov (xmove rfl) rfl rfl rfl ?_
              refine ov (xnot rfl) rfl rfl rfl ?_
              refine ov (xpick_f rfl rfl) rfl rfl rfl ?_
              refine ov (xmove rfl) rfl rfl rfl ?_
              refine ov (xmove rfl) rfl rfl rfl ?_
              refine ov (xnot rfl) rfl rfl rfl ?_
              refine ov (xpick_f rfl rfl) rfl rfl rfl ?_
              refine ov (xmove rfl) rfl rfl rfl ?_
              refine ov (xmove rfl) rfl rfl rfl ?_
              refine oc (xcall Try.call42 rfl) rfl rfl rfl (IsWord_ok ((cutT (cutT (cutT t 91).2.1 93).1 124).1) _ (by first | assumption | omega)) ?_
              rintro _ w_ ⟨rfl, hw_⟩
              replace hw_ := hw_.symm
              subst hw_
              refine obs (fun c68 => ?_) (fun c68 => ?_)
              ·
                refine ov (xnot rfl) rfl rfl rfl ?_
                refine ov (xpick_f rfl rfl) rfl rfl rfl ?_
                refine ops_nil ?_
                refine run_cond_f rfl ?_
                refine run_skip ?_
                refine run_seq ?_
                refine run_region ?_
                refine ov (xmove rfl) rfl rfl rfl ?_
                refine ov (xmove rfl) rfl rfl rfl ?_
                refine ov (xmove rfl) rfl rfl rfl ?_
                refine ov (xbuild (vs := [.string (cutT (cutT (cutT t 91).2.1 93).1 124).1, .bool true, .slice q53 m53 d53]) (cells := #[.string ⟨#[]⟩, .string (cutT (cutT (cutT t 91).2.1 93).1 124).1, .bool true, .slice q53 m53 d53]) rfl (by kernel_rfl)) rfl rfl rfl ?_
                refine obuild (cs := [.string ⟨#[]⟩, .string (cutT (cutT (cutT t 91).2.1 93).1 124).1, .bool true, .slice q53 m53 d53]) (sz := 4) Try.underlying73 inf77 rfl rfl (by decide) rfl rfl (by simp [Value.cells]) rfl rfl rfl ?_
                intro b9 w9 e9 hb9 hz9 O9
                have E := E.trans e9
                replace I_4 := I_4.ext e9
                replace G28 := G28.ext e9
                replace G5 := G5.ext e9
                replace G53 := G53.ext e9
                have hmv76 := fun q_ h_ => Apart.move (q' := q_) hsep I_4 h_
                have hnw76 := fun q_ h_ => Apart.new (q' := q_) (x := (⟨⟨#[]⟩, (cutT (cutT (cutT t 91).2.1 93).1 124).1, true, q53, m53, d53⟩ : Pt)) G5 G53 (by omega) h_
                refine oapp2 (bytes := 64) (nm := ((m_4 + m28) + 1)) G5 rfl rfl elem77 (Own.sl1 (y := (⟨⟨#[]⟩, (cutT (cutT (cutT t 91).2.1 93).1 124).1, true, q53, m53, d53⟩ : Pt)) O9) (by intro h; cases h) (by intro y hy; rfl) (by intro y hy u hu; rw [List.mem_singleton] at hy; subst hy; revert u; simp [Value.oneCell', Pt.cells]) (by omega) (by omega) (by omega) (by omega) rfl rfl ?_
                intro p10 c10_ w10 m10 k10 hat76 G10
                have hh10 := hend_le p5
                have hz10 := m10.size
                have E := m10.toExt E (by omega)
                replace I_4 := I_4.move hsep k10
                replace G53 := (by first | exact G53.off m10 (by omega) | exact G53.off k10 (by omega))
                try replace O9 := m10.own O9 (by omega)
                have hsep76 := (hmv76 _ hat76).app (hnw76 _ hat76)
                replace I_4 := (I_4.wide (hi' := w10.heap.size) (Nat.le_refl _) (by omega)).app (Ins.one (x := (⟨⟨#[]⟩, (cutT (cutT (cutT t 91).2.1 93).1 124).1, true, q53, m53, d53⟩ : Pt)) (z := ⟨⟨#[]⟩, (cutT (cutT (cutT t 91).2.1 93).1 124).1, true, (rp (cutT (cutT (cutT t 91).2.1 93).1 124).2.1).getD []⟩) ⟨rfl, rfl, rfl, G53.wide (by omega) (by omega)⟩)
                refine ov (xassign rfl) rfl rfl rfl ?_
                refine ops_nil ?_
                refine run_region ?_
                refine ov (xmove rfl) rfl rfl rfl ?_
                refine ov (xassign rfl) rfl rfl rfl ?_
                refine ops_nil ?_
                refine run_inBlock ?_
                refine run_sub ?_ (hback4 ((cutT (cutT t 91).2.1 93).2.1, ((zs ++ ((rp (cutT t 91).1).getD []).map TP.of) ++ [⟨⟨#[]⟩, (cutT (cutT (cutT t 91).2.1 93).1 124).1, true, (rp (cutT (cutT (cutT t 91).2.1 93).1 124).2.1).getD []⟩]), p10, ((m_4 + m28) + 1), c10_, ((ys_4 ++ ((rp (cutT t 91).1).getD []).map Pt.pp) ++ [(⟨⟨#[]⟩, (cutT (cutT (cutT t 91).2.1 93).1 124).1, true, q53, m53, d53⟩ : Pt)]), w10) (⟨E, I_4, G10.wide (by omega) (by omega), by omega, by omega, by omega, (asc_cut (asc_cut hpt 91).2 93).2, by rw [hrt, rt_ok (some_getD c30) c25 c44 c50 c68 (some_getD c55), Option.map_map]; congr 1; funext l; simp, hsep76, by simp only [List.length_append, List.length_map, List.length_cons, List.length_nil]; have := cutT_sum c25; omega⟩) (by have := cutT_lt c25; dsimp only; omega))
                exact ⟨rfl, rfl, trivial⟩
              ·
                refine ov (xnot rfl) rfl rfl rfl ?_
                refine ov (xpick_f rfl rfl) rfl rfl rfl ?_
                refine ops_nil ?_
                refine run_cond_t rfl ?_
                refine run_seq ?_
                refine run_region ?_
                refine ov (xassign rfl) rfl rfl rfl ?_
                refine ov (xassign rfl) rfl rfl rfl ?_
                refine ops_nil ?_
                refine run_ret Try.func58 (res2 rfl rfl rfl) ?_
                have he : rtI s = none := by rw [rtI, if_pos c17, hrt, rt_no2 c25 (by rintro ⟨h1_, h2_, h3_, h4_⟩; simp [c68] at h3_)]; rfl
                exact ⟨_, rfl, E, none, 0, 0, [], by rw [he]; rfl, Ow.none _ _ _ _ _ _, by rw [he]; trivial⟩
            ·
              refine ov (xassign rfl) rfl rfl rfl ?_
              refine ov (xassign rfl) rfl rfl rfl ?_
              refine ops_nil ?_
              refine run_seq ?_
              refine run_seq ?_
              refine run_region ?_
              refine ov (xmove rfl) rfl rfl rfl ?_
              refine ov (xnot rfl) rfl rfl rfl ?_
              refine ov (xmove rfl) rfl rfl rfl ?_
              refine ov (xmove rfl) rfl rfl rfl ?_
              refine ov (xnot rfl) rfl rfl rfl ?_
              refine ov (xpick_f rfl rfl) rfl rfl rfl ?_
              refine ov (xmove rfl) rfl rfl rfl ?_
              refine ov (xmove rfl) rfl rfl rfl ?_
              refine ov (xnot rfl) rfl rfl rfl ?_
              refine ov (xpick_f rfl rfl) rfl rfl rfl ?_
              refine ov (xmove rfl) rfl rfl rfl ?_
              refine og rfl rfl rfl ?_
              refine og rfl rfl rfl ?_
              refine og rfl rfl rfl ?_
              refine ov (xpick_t rfl rfl) rfl rfl rfl ?_
              refine ops_nil ?_
              refine run_cond_t rfl ?_
              refine run_seq ?_
              refine run_region ?_
              refine ov (xassign rfl) rfl rfl rfl ?_
              refine ov (xassign rfl) rfl rfl rfl ?_
              refine ops_nil ?_
              refine run_ret Try.func58 (res2 rfl rfl rfl) ?_
              have he : rtI s = none := by rw [rtI, if_pos c17, hrt, rt_no2 c25 (by rintro ⟨h1_, h2_, h3_, h4_⟩; simp [c55] at h4_)]; rfl
              exact ⟨_, rfl, E, none, 0, 0, [], by rw [he]; rfl, Ow.none _ _ _ _ _ _, by rw [he]; trivial⟩
          ·
            refine ov (xassign rfl) rfl rfl rfl ?_
            refine ov (xassign rfl) rfl rfl rfl ?_
            refine ov (xassign rfl) rfl rfl rfl ?_
            refine ops_nil ?_
            refine run_seq ?_
            refine run_region ?_
            refine ov (xmove rfl) rfl rfl rfl ?_
            refine oc (xcall Try.call73 rfl) rfl rfl rfl (readPlaces_ok (cutT (cutT (cutT t 91).2.1 93).1 124).2.1 _ (by omega) ((asc_cut (asc_cut (asc_cut hpt 91).2 93).1 124).2) (hm.ext E)) ?_
            rintro _ w8 ⟨e8, q53, m53, d53, rfl, G53⟩
            have z8 := e8.size
            have E := E.trans e8
            replace I_4 := I_4.ext e8
            replace G28 := G28.ext e8
            replace G5 := G5.ext e8
            have lG53 := G53.len
            rw [List.length_map] at lG53
            refine ov (xmove rfl) rfl rfl rfl ?_
            refine ov (xextract rfl rfl) rfl rfl rfl ?_
            refine ov (xextract rfl rfl) rfl rfl rfl ?_
            refine obs (fun c55 => ?_) (fun c55 => ?_)
            ·
              refine ov (xassign rfl) rfl rfl rfl ?_
              refine ov (xassign rfl) rfl rfl rfl ?_
              refine ops_nil ?_
              refine run_seq ?_
              refine run_seq ?_
              refine run_region ?_
              refine ov (xmove rfl) rfl rfl rfl ?_
              refine ov (xnot rfl) rfl rfl rfl ?_
              refine ov (xmove rfl) rfl rfl rfl ?_
              refine ov (xmove rfl) rfl rfl rfl ?_
              refine ov (xnot rfl) rfl rfl rfl ?_
              refine ov (xpick_f rfl rfl) rfl rfl rfl ?_
              refine ov (xmove rfl) rfl rfl rfl ?_
              refine og rfl rfl rfl ?_
              refine og rfl rfl rfl ?_
              refine ov (xpick_t rfl rfl) rfl rfl rfl ?_
              refine ov (xmove rfl) rfl rfl rfl ?_
              refine og rfl rfl rfl ?_
              refine og rfl rfl rfl ?_
              refine og rfl rfl rfl ?_
              refine ov (xpick_t rfl rfl) rfl rfl rfl ?_
              refine ops_nil ?_
              refine run_cond_t rfl ?_
              refine run_seq ?_
              refine run_region ?_
              refine ov (xassign rfl) rfl rfl rfl ?_
              refine ov (xassign rfl) rfl rfl rfl ?_
              refine ops_nil ?_
              refine run_ret Try.func58 (res2 rfl rfl rfl) ?_
              have he : rtI s = none := by rw [rtI, if_pos c17, hrt, rt_no2 c25 (by rintro ⟨h1_, h2_, h3_, h4_⟩; simp [c50] at h2_)]; rfl
              exact ⟨_, rfl, E, none, 0, 0, [], by rw [he]; rfl, Ow.none _ _ _ _ _ _, by rw [he]; trivial⟩
            ·
              refine ov (xassign rfl) rfl rfl rfl ?_
              refine ov (xassign rfl) rfl rfl rfl ?_
              refine ops_nil ?_
              refine run_seq ?_
              refine run_seq ?_
              refine run_region ?_
              refine ov (xmove rfl) rfl rfl rfl ?_
              refine ov (xnot rfl) rfl rfl rfl ?_
              refine ov (xmove rfl) rfl rfl rfl ?_
              refine ov (xmove rfl) rfl rfl rfl ?_
              refine ov (xnot rfl) rfl rfl rfl ?_
              refine ov (xpick_f rfl rfl) rfl rfl rfl ?_
              refine ov (xmove rfl) rfl rfl rfl ?_
              refine og rfl rfl rfl ?_
              refine og rfl rfl rfl ?_
              refine ov (xpick_t rfl rfl) rfl rfl rfl ?_
              refine ov (xmove rfl) rfl rfl rfl ?_
              refine og rfl rfl rfl ?_
              refine og rfl rfl rfl ?_
              refine og rfl rfl rfl ?_
              refine ov (xpick_t rfl rfl) rfl rfl rfl ?_
              refine ops_nil ?_
              refine run_cond_t rfl ?_
              refine run_seq ?_
              refine run_region ?_
              refine ov (xassign rfl) rfl rfl rfl ?_
              refine ov (xassign rfl) rfl rfl rfl ?_
              refine ops_nil ?_
              refine run_ret Try.func58 (res2 rfl rfl rfl) ?_
              have he : rtI s = none := by rw [rtI, if_pos c17, hrt, rt_no2 c25 (by rintro ⟨h1_, h2_, h3_, h4_⟩; simp [c50] at h2_)]; rfl
              exact ⟨_, rfl, E, none, 0, 0, [], by rw [he]; rfl, Ow.none _ _ _ _ _ _, by rw [he]; trivial⟩
        ·
          refine ov (xassign rfl) rfl rfl rfl ?_
          refine ov (xassign rfl) rfl rfl rfl ?_
          refine ov (xassign rfl) rfl rfl rfl ?_
          refine ops_nil ?_
          refine run_seq ?_
          refine run_region ?_
          refine ov (xmove rfl) rfl rfl rfl ?_
          refine oc (xcall Try.call72 rfl) rfl rfl rfl (CutB_ok (cutT (cutT t 91).2.1 93).1 124 124 _ (by omega) (hm.ext E) rfl) ?_
          rintro _ w7 ⟨rfl, e7⟩
          have z7 := e7.size
          have E := E.trans e7
          replace I_4 := I_4.ext e7
          replace G28 := G28.ext e7
          replace G5 := G5.ext e7
          refine ov (xmove rfl) rfl rfl rfl ?_
          refine ov (xextract rfl rfl) rfl rfl rfl ?_
          refine ov (xextract rfl rfl) rfl rfl rfl ?_
          refine ov (xextract rfl rfl) rfl rfl rfl ?_
          refine obs (fun c50 => ?_) (fun c50 => ?_)
          ·
            refine ov (xassign rfl) rfl rfl rfl ?_
            refine ov (xassign rfl) rfl rfl rfl ?_
            refine ov (xassign rfl) rfl rfl rfl ?_
            refine ops_nil ?_
            refine run_seq ?_
            refine run_region ?_
            refine ov (xmove rfl) rfl rfl rfl ?_
            refine oc (xcall Try.call73 rfl) rfl rfl rfl (readPlaces_ok (cutT (cutT (cutT t 91).2.1 93).1 124).2.1 _ (by omega) ((asc_cut (asc_cut (asc_cut hpt 91).2 93).1 124).2) (hm.ext E)) ?_
            rintro _ w8 ⟨e8, q53, m53, d53, rfl, G53⟩
            have z8 := e8.size
            have E := E.trans e8
            replace I_4 := I_4.ext e8
            replace G28 := G28.ext e8
            replace G5 := G5.ext e8
            have lG53 := G53.len
            rw [List.length_map] at lG53
            refine ov (xmove rfl) rfl rfl rfl ?_
            refine ov (xextract rfl rfl) rfl rfl rfl ?_
            refine ov (xextract rfl rfl) rfl rfl rfl ?_
            refine obs (fun c55 => ?_) (fun c55 => ?_)
            ·
              refine ov (xassign rfl) rfl rfl rfl ?_
              refine ov (xassign rfl) rfl rfl rfl ?_
              refine ops_nil ?_
              refine run_seq ?_
              refine run_seq ?_
              refine run_region ?_
              refine ov (xmove rfl) rfl rfl rfl ?_
              refine ov (xnot rfl) rfl rfl rfl ?_
              refine ov (xmove rfl) rfl rfl rfl ?_
              refine og rfl rfl rfl ?_
              refine og rfl rfl rfl ?_
              refine ov (xpick_t rfl rfl) rfl rfl rfl ?_
              refine ov (xmove rfl) rfl rfl rfl ?_
              refine og rfl rfl rfl ?_
              refine og rfl rfl rfl ?_
              refine ov (xpick_t rfl rfl) rfl rfl rfl ?_
              refine ov (xmove rfl) rfl rfl rfl ?_
              refine og rfl rfl rfl ?_
              refine og rfl rfl rfl ?_
              refine og rfl rfl rfl ?_
              refine ov (xpick_t rfl rfl) rfl rfl rfl ?_
              refine ops_nil ?_
              refine run_cond_t rfl ?_
              refine run_seq ?_
              refine run_region ?_
              refine ov (xassign rfl) rfl rfl rfl ?_
              refine ov (xassign rfl) rfl rfl rfl ?_
              refine ops_nil ?_
              refine run_ret Try.func58 (res2 rfl rfl rfl) ?_
              have he : rtI s = none := by rw [rtI, if_pos c17, hrt, rt_no2 c25 (by rintro ⟨h1_, h2_, h3_, h4_⟩; simp [c44] at h1_)]; rfl
              exact ⟨_, rfl, E, none, 0, 0, [], by rw [he]; rfl, Ow.none _ _ _ _ _ _, by rw [he]; trivial⟩
            ·
              refine ov (xassign rfl) rfl rfl rfl ?_
              refine ov (xassign rfl) rfl rfl rfl ?_
              refine ops_nil ?_
              refine run_seq ?_
              refine run_seq ?_
              refine run_region ?_
              refine ov (xmove rfl) rfl rfl rfl ?_
              refine ov (xnot rfl) rfl rfl rfl ?_
              refine ov (xmove rfl) rfl rfl rfl ?_
              refine og rfl rfl rfl ?_
              refine og rfl rfl rfl ?_
              refine ov (xpick_t rfl rfl) rfl rfl rfl ?_
              refine ov (xmove rfl) rfl rfl rfl ?_
              refine og rfl rfl rfl ?_
              refine og rfl rfl rfl ?_
              refine ov (xpick_t rfl rfl) rfl rfl rfl ?_
              refine ov (xmove rfl) rfl rfl rfl ?_
              refine og rfl rfl rfl ?_
              refine og rfl rfl rfl ?_
              refine og rfl rfl rfl ?_
              refine ov (xpick_t rfl rfl) rfl rfl rfl ?_
              refine ops_nil ?_
              refine run_cond_t rfl ?_
              refine run_seq ?_
              refine run_region ?_
              refine ov (xassign rfl) rfl rfl rfl ?_
              refine ov (xassign rfl) rfl rfl rfl ?_
              refine ops_nil ?_
              refine run_ret Try.func58 (res2 rfl rfl rfl) ?_
              have he : rtI s = none := by rw [rtI, if_pos c17, hrt, rt_no2 c25 (by rintro ⟨h1_, h2_, h3_, h4_⟩; simp [c44] at h1_)]; rfl
              exact ⟨_, rfl, E, none, 0, 0, [], by rw [he]; rfl, Ow.none _ _ _ _ _ _, by rw [he]; trivial⟩
          ·
            refine ov (xassign rfl) rfl rfl rfl ?_
            refine ov (xassign rfl) rfl rfl rfl ?_
            refine ov (xassign rfl) rfl rfl rfl ?_
            refine ops_nil ?_
            refine run_seq ?_
            refine run_region ?_
            refine ov (xmove rfl) rfl rfl rfl ?_
            refine oc (xcall Try.call73 rfl) rfl rfl rfl (readPlaces_ok (cutT (cutT (cutT t 91).2.1 93).1 124).2.1 _ (by omega) ((asc_cut (asc_cut (asc_cut hpt 91).2 93).1 124).2) (hm.ext E)) ?_
            rintro _ w8 ⟨e8, q53, m53, d53, rfl, G53⟩
            have z8 := e8.size
            have E := E.trans e8
            replace I_4 := I_4.ext e8
            replace G28 := G28.ext e8
            replace G5 := G5.ext e8
            have lG53 := G53.len
            rw [List.length_map] at lG53
            refine ov (xmove rfl) rfl rfl rfl ?_
            refine ov (xextract rfl rfl) rfl rfl rfl ?_
            refine ov (xextract rfl rfl) rfl rfl rfl ?_
            refine obs (fun c55 => ?_) (fun c55 => ?_)
            ·
              refine ov (xassign rfl) rfl rfl rfl ?_
              refine ov (xassign rfl) rfl rfl rfl ?_
              refine ops_nil ?_
              refine run_seq ?_
              refine run_seq ?_
              refine run_region ?_
              refine ov (xmove rfl) rfl rfl rfl ?_
              refine ov (xnot rfl) rfl rfl rfl ?_
              refine ov (xmove rfl) rfl rfl rfl ?_
              refine og rfl rfl rfl ?_
              refine og rfl rfl rfl ?_
              refine ov (xpick_t rfl rfl) rfl rfl rfl ?_
              refine ov (xmove rfl) rfl rfl rfl ?_
              refine og rfl rfl rfl ?_
              refine og rfl rfl rfl ?_
              refine ov (xpick_t rfl rfl) rfl rfl rfl ?_
              refine ov (xmove rfl) rfl rfl rfl ?_
              refine og rfl rfl rfl ?_
              refine og rfl rfl rfl ?_
              refine og rfl rfl rfl ?_
              refine ov (xpick_t rfl rfl) rfl rfl rfl ?_
              refine ops_nil ?_
              refine run_cond_t rfl ?_
              refine run_seq ?_
              refine run_region ?_
              refine ov (xassign rfl) rfl rfl rfl ?_
              refine ov (xassign rfl) rfl rfl rfl ?_
              refine ops_nil ?_
              refine run_ret Try.func58 (res2 rfl rfl rfl) ?_
              have he : rtI s = none := by rw [rtI, if_pos c17, hrt, rt_no2 c25 (by rintro ⟨h1_, h2_, h3_, h4_⟩; simp [c44] at h1_)]; rfl
              exact ⟨_, rfl, E, none, 0, 0, [], by rw [he]; rfl, Ow.none _ _ _ _ _ _, by rw [he]; trivial⟩
            ·
              refine ov (xassign rfl) rfl rfl rfl ?_
              refine ov (xassign rfl) rfl rfl rfl ?_
              refine ops_nil ?_
              refine run_seq ?_
              refine run_seq ?_
              refine run_region ?_
              refine ov (xmove rfl) rfl rfl rfl ?_
              refine ov (xnot rfl) rfl rfl rfl ?_
              refine ov (xmove rfl) rfl rfl rfl ?_
              refine og rfl rfl rfl ?_
              refine og rfl rfl rfl ?_
              refine ov (xpick_t rfl rfl) rfl rfl rfl ?_
              refine ov (xmove rfl) rfl rfl rfl ?_
              refine og rfl rfl rfl ?_
              refine og rfl rfl rfl ?_
              refine ov (xpick_t rfl rfl) rfl rfl rfl ?_
              refine ov (xmove rfl) rfl rfl rfl ?_
              refine og rfl rfl rfl ?_
              refine og rfl rfl rfl ?_
              refine og rfl rfl rfl ?_
              refine ov (xpick_t rfl rfl) rfl rfl rfl ?_
              refine ops_nil ?_
              refine run_cond_t rfl ?_
              refine run_seq ?_
              refine run_region ?_
              refine ov (xassign rfl) rfl rfl rfl ?_
              refine ov (xassign rfl) rfl rfl rfl ?_
              refine ops_nil ?_
              refine run_ret Try.func58 (res2 rfl rfl rfl) ?_
              have he : rtI s = none := by rw [rtI, if_pos c17, hrt, rt_no2 c25 (by rintro ⟨h1_, h2_, h3_, h4_⟩; simp [c44] at h1_)]; rfl
              exact ⟨_, rfl, E, none, 0, 0, [], by rw [he]; rfl, Ow.none _ _ _ _ _ _, by rw [he]; trivial⟩
      ·
        refine ov (xassign rfl) rfl rfl rfl ?_
        refine ov (xassign rfl) rfl rfl rfl ?_
        refine ops_nil ?_
        refine run_seq ?_
        refine run_seq ?_
        refine run_region ?_
        refine ov (xmove rfl) rfl rfl rfl ?_
        refine ov (xnot rfl) rfl rfl rfl ?_
        refine ops_nil ?_
        refine run_cond_t rfl ?_
        refine run_seq ?_
        refine run_region ?_
        refine ov (xassign rfl) rfl rfl rfl ?_
        refine ov (xassign rfl) rfl rfl rfl ?_
        refine ops_nil ?_
        refine run_ret Try.func58 (res2 rfl rfl rfl) ?_
        have he : rtI s = none := by rw [rtI, if_pos c17, hrt, rt_no1 c30]; rfl
        exact ⟨_, rfl, E, none, 0, 0, [], by rw [he]; rfl, Ow.none _ _ _ _ _ _, by rw [he]; trivial⟩
    ·
      refine ov (xassign rfl) rfl rfl rfl ?_
      refine ov (xassign rfl) rfl rfl rfl ?_
      refine ov (xassign rfl) rfl rfl rfl ?_
      refine ops_nil ?_
      refine run_seq ?_
      refine run_region ?_
      refine ov (xmove rfl) rfl rfl rfl ?_
      refine oc (xcall Try.call73 rfl) rfl rfl rfl (readPlaces_ok (cutT t 91).1 _ (by omega) ((asc_cut hpt 91).1) (hm.ext E)) ?_
      rintro _ w4 ⟨e4, q28, m28, d28, rfl, G28⟩
      have z4 := e4.size
      have E := E.trans e4
      replace G_4 := G_4.ext e4
      replace I_4 := I_4.ext e4
      have lG28 := G28.len
      rw [List.length_map] at lG28
      refine ov (xmove rfl) rfl rfl rfl ?_
      refine ov (xextract rfl rfl) rfl rfl rfl ?_
      refine ov (xextract rfl rfl) rfl rfl rfl ?_
      refine obs (fun c30 => ?_) (fun c30 => ?_)
      ·
        refine ov (xassign rfl) rfl rfl rfl ?_
        refine ov (xassign rfl) rfl rfl rfl ?_
        refine ops_nil ?_
        refine run_seq ?_
        refine run_seq ?_
        refine run_region ?_
        refine ov (xmove rfl) rfl rfl rfl ?_
        refine ov (xnot rfl) rfl rfl rfl ?_
        refine ops_nil ?_
        refine run_cond_f rfl ?_
        refine run_skip ?_
        refine run_seq ?_
        refine run_region ?_
        refine ov (xmove rfl) rfl rfl rfl ?_
        refine ov (xmove rfl) rfl rfl rfl ?_
        have hmv35 := fun q_ h_ => Apart.move (q' := q_) hsep I_4 h_
        refine oapp2 (bytes := 64) (nm := (m_4 + m28)) G_4 rfl rfl elem77 (G28.sl) (ow_nil G28) (by intro y hy; rfl) (by intro y hy u hu; obtain ⟨y_, _, rfl⟩ := List.mem_map.1 hy; simp only [Pt.cells, Pt.pp, List.mem_cons, List.not_mem_nil, or_false] at hu; rcases hu with rfl | rfl | rfl | rfl <;> rfl) (by omega) (by omega) (by omega) (by omega) rfl rfl ?_
        intro p5 c5_ w5 m5 k5 hat35 G5
        have hh5 := hend_le q_4
        have hz5 := m5.size
        have E := m5.toExt E (by omega)
        replace I_4 := I_4.move hsep k5
        replace G28 := (by first | exact G28.off m5 (by omega) | exact G28.off k5 (by omega))
        replace hsep := (hmv35 _ hat35).app (Apart.pps _ ((rp (cutT t 91).1).getD []))
        replace I_4 := (I_4.wide (hi' := w5.heap.size) (Nat.le_refl _) (by omega)).app (Ins.pps ((rp (cutT t 91).1).getD []))
        refine ov (xassign rfl) rfl rfl rfl ?_
        refine ops_nil ?_
        refine run_seq ?_
        refine run_seq ?_
        refine run_region ?_
        refine ov (xmove rfl) rfl rfl rfl ?_
        refine ov (xnot rfl) rfl rfl rfl ?_
        refine ops_nil ?_
        refine run_cond_t rfl ?_
        refine run_seq ?_
        refine run_region ?_
        refine ov (xmove rfl) rfl rfl rfl ?_
        refine ov (xassign rfl) rfl rfl rfl ?_
        refine ov (xassign rfl) rfl rfl rfl ?_
        refine ops_nil ?_
        refine run_ret Try.func58 (res2 rfl rfl rfl) ?_
        have he : rtI s = some (zs ++ ((rp (cutT t 91).1).getD []).map TP.of) := by rw [rtI, if_pos c17, hrt, rt_end (some_getD c30) c25]; rfl
        exact ⟨_, rfl, E, _, _, _, _, by rw [he]; rfl, G5.wide (by omega) (by omega), by rw [he]; exact I_4.wide (by omega) (by omega)⟩
      ·
        refine ov (xassign rfl) rfl rfl rfl ?_
        refine ov (xassign rfl) rfl rfl rfl ?_
        refine ops_nil ?_
        refine run_seq ?_
        refine run_seq ?_
        refine run_region ?_
        refine ov (xmove rfl) rfl rfl rfl ?_
        refine ov (xnot rfl) rfl rfl rfl ?_
        refine ops_nil ?_
        refine run_cond_t rfl ?_
        refine run_seq ?_
        refine run_region ?_
        refine ov (xassign rfl) rfl rfl rfl ?_
        refine ov (xassign rfl) rfl rfl rfl ?_
        refine ops_nil ?_
        refine run_ret Try.func58 (res2 rfl rfl rfl) ?_
        have he : rtI s = none := by rw [rtI, if_pos c17, hrt, rt_no1 c30]; rfl
        exact ⟨_, rfl, E, none, 0, 0, [], by rw [he]; rfl, Ow.none _ _ _ _ _ _, by rw [he]; trivial⟩
  ·
    refine ov (xnot rfl) rfl rfl rfl ?_
    refine ops_nil ?_
    refine run_cond_t rfl ?_
    refine run_seq ?_
    refine run_region ?_
    refine ov (xassign rfl) rfl rfl rfl ?_
    refine ov (xassign rfl) rfl rfl rfl ?_
    refine ops_nil ?_
    refine run_ret Try.func58 (res2 rfl rfl rfl) ?_
    have he : rtI s = none := by rw [rtI, if_neg (by simp [c17])]
    exact ⟨_, rfl, E, none, 0, 0, [], by rw [he]; rfl, Ow.none _ _ _ _ _ _, by rw [he]; trivial⟩
end Go.Proofs.Ytgbedilaiefcbaa
