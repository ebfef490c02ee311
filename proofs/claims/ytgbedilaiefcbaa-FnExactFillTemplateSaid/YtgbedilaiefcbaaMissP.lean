/-
  The program on filled templates: the walks. No condition beyond those written in each theorem.
-/
import Derived.Test.YtgbedilaiefcbaaFillP
import Derived.Test.YtgbedilaiefcbaaDelS
import Derived.Test.YtgbedilaiefcbaaVals
namespace Go.Proofs.Ytgbedilaiefcbaa
open Go.RowKit
set_option linter.unusedVariables false
set_option linter.unusedSimpArgs false
set_option linter.unusedSectionVars false
set_option maxRecDepth 4000

theorem lacks_eq (vs : List Val) : (fun x => !(textOf vs x).2) = lacks vs := by
  funext x
  unfold lacks textOf
  by_cases h : findV vs x < 0
  · rw [if_pos h]; simp [h]
  · rw [if_neg h]; simp [h]
def missL (vs : List Val) (zs : List TP) : List ByteArray := srtS ((zs.flatMap (stepP (accV vs))).filter (lacks vs))
theorem fill_of {s : ByteArray} {l : List TP} (h : rtI s = some l) (vs : List Val) : fillT s vs = if areValues vs = false then (⟨#[]⟩, 1) else if 0 < (missL vs l).length then (⟨#[]⟩, 4) else (catT (l.map (fillZ vs)), 0) := by
  have h2 : ¬ isTpl s = false := by rw [isTpl, h]; simp
  rw [fillT, if_neg h2, al_of h]; rfl
attribute [local irreducible] at1 fstB untilT nextT fl al rp rt cutT isWord tail1 insT insAllT findV textOf rtI srtS catT

set_option maxHeartbeats 400000 in
theorem missing1_ok (x : ByteArray) (b : Nat) (q : Option Addr) (m d : Nat) (vs : List Val) (w : World) (O : Own w b [.slice q m d] 25) (H : Sl Val.cells 2 w q m d vs) : Ret Try.prog 76 [.string x, .pointer (some ⟨b, 0, none⟩)] w (Pv w (.bool (accV vs x))) := by
  refine ret_of_run (N := 14) Try.func76 rfl rfl rfl ?_
  have E : Ext w w := Ext.refl w
  refine run_seq ?_
  refine run_region ?_
  refine ov (xassign rfl) rfl rfl rfl ?_
  refine ops_nil ?_
  refine run_seq ?_
  refine run_region ?_
  refine ov (v := .slice q m d) (xloadz Try.isAgg25 rfl (O.cells) rfl) rfl rfl rfl ?_
  refine ov (xmove rfl) rfl rfl rfl ?_
  refine oc (xcall Try.call49 rfl) rfl rfl rfl (textOf_ok _ _ _ vs x _ ((H.ext E))) ?_
  rintro _ w1 ⟨rfl, e1⟩
  have z1 := e1.size
  have E := E.trans e1
  replace O := O.ext e1
  refine ov (xmove rfl) rfl rfl rfl ?_
  refine ov (xextract rfl rfl) rfl rfl rfl ?_
  refine ov (xextract rfl rfl) rfl rfl rfl ?_
  refine ov (xassign rfl) rfl rfl rfl ?_
  refine ov (xassign rfl) rfl rfl rfl ?_
  refine ops_nil ?_
  refine run_seq ?_
  refine run_region ?_
  refine ov (xmove rfl) rfl rfl rfl ?_
  refine ov (xsneq rfl rfl _ rfl) rfl rfl rfl ?_
  refine ov (xassign rfl) rfl rfl rfl ?_
  refine ops_nil ?_
  refine run_ret Try.func76 (res1 rfl rfl) ?_
  exact ⟨_, rfl, congrArg Value.bool (by simp [accV]), E⟩

set_option maxHeartbeats 400000 in
theorem missing2_ok (x : ByteArray) (b : Nat) (q : Option Addr) (m d : Nat) (vs : List Val) (w : World) (O : Own w b [.slice q m d] 25) (H : Sl Val.cells 2 w q m d vs) : Ret Try.prog 78 [.string x, .pointer (some ⟨b, 0, none⟩)] w (Pv w (.bool ((textOf vs x).2))) := by
  refine ret_of_run (N := 13) Try.func78 rfl rfl rfl ?_
  have E : Ext w w := Ext.refl w
  refine run_seq ?_
  refine run_region ?_
  refine ov (xassign rfl) rfl rfl rfl ?_
  refine ops_nil ?_
  refine run_seq ?_
  refine run_region ?_
  refine ov (v := .slice q m d) (xloadz Try.isAgg25 rfl (O.cells) rfl) rfl rfl rfl ?_
  refine ov (xmove rfl) rfl rfl rfl ?_
  refine oc (xcall Try.call49 rfl) rfl rfl rfl (textOf_ok _ _ _ vs x _ ((H.ext E))) ?_
  rintro _ w1 ⟨rfl, e1⟩
  have z1 := e1.size
  have E := E.trans e1
  replace O := O.ext e1
  refine ov (xmove rfl) rfl rfl rfl ?_
  refine ov (xextract rfl rfl) rfl rfl rfl ?_
  refine ov (xextract rfl rfl) rfl rfl rfl ?_
  refine ov (xassign rfl) rfl rfl rfl ?_
  refine ov (xassign rfl) rfl rfl rfl ?_
  refine ops_nil ?_
  refine run_seq ?_
  refine run_region ?_
  refine ov (xmove rfl) rfl rfl rfl ?_
  refine ov (xassign rfl) rfl rfl rfl ?_
  refine ops_nil ?_
  refine run_ret Try.func78 (res1 rfl rfl) ?_
  exact ⟨_, rfl, rfl, E⟩

set_option maxHeartbeats 2000000 in
theorem missing_ok (p : Option Addr) (n c : Nat) (ys : List Pt) (zs : List TP) (lo hi : Nat) (q : Option Addr) (m d : Nat) (vs : List Val) (w : World) (G : Ow Pt.cells 4 77 w lo hi p n c ys) (I : Ins 77 w lo hi ys zs) (hz : TB zs) (H2 : Sl Val.cells 2 w q m d vs) : Ret Try.prog 63 [.slice p n c, .slice q m d] w (fun v w' => Ext w w' ∧ ∃ q1 m1 d1, v = .slice q1 m1 d1 ∧ Ow strc 1 9 w' w.heap.size w'.heap.size q1 m1 d1 (missL vs zs)) := by
  refine ret_of_run (N := 13) Try.func63 rfl rfl rfl ?_
  have E : Ext w w := Ext.refl w
  refine run_seq ?_
  refine run_region ?_
  refine obox rfl rfl rfl ?_
  intro b1 w1 e1 hb1 hz1 O1
  have E := E.trans e1
  replace O1 : Own w1 b1 [.slice q m d] 25 := O1
  refine ov (xassign rfl) rfl rfl rfl ?_
  refine ops_nil ?_
  refine run_seq ?_
  refine run_region ?_
  refine ov (xmove rfl) rfl rfl rfl ?_
  refine ov (xmakeFunc rfl rfl) rfl rfl rfl ?_
  refine oc (xcall Try.call60 rfl) rfl rfl rfl (places_ok _ _ _ ys zs _ _ _ (G.ext E) (I.ext E) hz 76 [.pointer (some ⟨b1, 0, none⟩)] (accV vs) Try.call76 (fun w2 x2 x => missing1_ok x _ _ _ _ vs _ (O1.ext x2) (H2.ext (E.trans x2)))) ?_
  rintro _ w2 ⟨e2, q8, m8, d8, rfl, hq8, G8⟩
  have z2 := e2.size
  have E := E.trans e2
  replace O1 := O1.ext e2
  have lG8 := G8.len
  have lst := stepP_len (accV vs) hz
  refine ov (xassign rfl) rfl rfl rfl ?_
  refine ops_nil ?_
  refine run_seq ?_
  refine run_region ?_
  refine ov (xmove rfl) rfl rfl rfl ?_
  refine ov (xmakeFunc rfl rfl) rfl rfl rfl ?_
  refine oc (xcall Try.call77 rfl) rfl rfl rfl (DeleteFuncS_ok _ _ _ _ _ _ _ G8 (by omega) 78 [.pointer (some ⟨b1, 0, none⟩)] (fun x => (textOf vs x).2) Try.call78 (fun w2 x2 x => missing2_ok x _ _ _ _ vs _ (x2.own O1 (by omega)) ((H2.ext (x2.toExt E (by omega)))))) ?_
  rintro _ w3 ⟨mz, rfl, hmz, m3, g3⟩
  have z3 := m3.size
  have E := m3.toExt E (by omega)
  replace O1 := m3.own O1 (by omega)
  replace G8 := g3
  refine oc (xcall Try.call59 rfl) rfl rfl rfl (sortedNames_ok _ _ _ _ _ _ _ G8 hq8 (by omega)) ?_
  rintro _ w4 ⟨mz2, rfl, hmz2, m4, g4⟩
  have z4 := m4.size
  have E := m4.toExt E (by omega)
  replace O1 := m4.own O1 (by omega)
  replace G8 := g4
  refine ov (xassign rfl) rfl rfl rfl ?_
  refine ops_nil ?_
  refine run_ret Try.func63 (res1 rfl rfl) ?_
  exact ⟨_, rfl, E, _, _, _, rfl, by rw [missL, ← lacks_eq]; exact G8.wide (by omega) (by omega)⟩

set_option maxHeartbeats 2000000 in
theorem FillTemplate_ok (s : ByteArray) (q : Option Addr) (m d : Nat) (vs : List Val) (w : World) (H2 : Sl Val.cells 2 w q m d vs) (hs : s.size ≤ 1048576) (hv : ∀ (i : Nat) (h : i < vs.length), vs[i].Text.size ≤ 1048576) (hx : ∀ x ∈ vs, x.ok) (hm : Hm w) : Ret Try.prog 38 [.string s, .slice q m d] w (Pv w (.tuple #[.string (fillT s vs).1, .int .i64 (fillT s vs).2])) := by
  refine ret_of_run (N := 29) Try.func38 rfl rfl rfl ?_
  have E : Ext w w := Ext.refl w
  refine run_seq ?_
  refine run_region ?_
  refine ov (xassign rfl) rfl rfl rfl ?_
  refine ov (xassign rfl) rfl rfl rfl ?_
  refine ops_nil ?_
  refine run_seq ?_
  refine run_region ?_
  refine ov (xmove rfl) rfl rfl rfl ?_
  refine oc (xcall Try.call58 rfl) rfl rfl rfl (readTemplate_ok (s) _ (by omega) (hm.ext E)) ?_
  rintro _ w1 ⟨e1, q10, m10, d10, ys10, rfl, G10, I10⟩
  have z1 := e1.size
  have E := E.trans e1
  have lG10 := G10.len
  have lI10 := I10.len
  have hTB := rtI_TB s
  have hTB1 := hTB.1
  refine ov (xmove rfl) rfl rfl rfl ?_
  refine ov (xextract rfl rfl) rfl rfl rfl ?_
  refine ov (xextract rfl rfl) rfl rfl rfl ?_
  refine obs (fun c12 => ?_) (fun c12 => ?_)
  ·
    refine ov (xassign rfl) rfl rfl rfl ?_
    refine ov (xassign rfl) rfl rfl rfl ?_
    refine ops_nil ?_
    refine run_seq ?_
    refine run_block ?_
    refine run_seq ?_
    refine run_region ?_
    refine ov (xmove rfl) rfl rfl rfl ?_
    refine ov (xnot rfl) rfl rfl rfl ?_
    refine ov (xassign rfl) rfl rfl rfl ?_
    refine ops_nil ?_
    refine run_cond_f rfl ?_
    refine run_seq ?_
    refine run_region ?_
    refine ov (xmove rfl) rfl rfl rfl ?_
    refine oc (xcall Try.call14 rfl) rfl rfl rfl (AreValues_ok _ _ _ vs _ (H2.ext E) hx) ?_
    rintro _ w2 ⟨rfl, e2⟩
    have z2 := e2.size
    have E := E.trans e2
    replace G10 := G10.ext e2
    replace I10 := I10.ext e2
    refine obs (fun c18 => ?_) (fun c18 => ?_)
    ·
      refine ov (xnot rfl) rfl rfl rfl ?_
      refine ov (xassign rfl) rfl rfl rfl ?_
      refine ops_nil ?_
      refine run_cond_f rfl ?_
      refine run_seq ?_
      refine run_region ?_
      refine ov (xmove rfl) rfl rfl rfl ?_
      refine ov (xmove rfl) rfl rfl rfl ?_
      refine oc (xcall Try.call63 rfl) rfl rfl rfl (missing_ok _ _ _ ys10 _ _ _ _ _ _ vs _ G10 I10 hTB (H2.ext E)) ?_
      rintro _ w3 ⟨e3, q23, m23, d23, rfl, G23⟩
      have z3 := e3.size
      have E := E.trans e3
      replace G10 := G10.ext e3
      replace I10 := I10.ext e3
      have lG23 := G23.len
      refine ov (xlen Try.underlying48 rfl) rfl rfl rfl ?_
      refine ov (xgtr rfl rfl _ rfl) rfl rfl rfl ?_
      refine ods (fun c25 => ?_) (fun c25 => ?_)
      ·
        refine ov (xassign rfl) rfl rfl rfl ?_
        refine ops_nil ?_
        refine run_cond_t rfl ?_
        refine run_seq ?_
        refine run_region ?_
        refine ov (xassign rfl) rfl rfl rfl ?_
        refine ov (xassign rfl) rfl rfl rfl ?_
        refine ops_nil ?_
        refine run_ret Try.func38 (res2 rfl rfl rfl) ?_
        have he := fill_of (rtI_some c12) vs
        rw [if_neg (by simp [c18]), if_pos (by omega)] at he
        exact ⟨_, rfl, by rw [he], E⟩
      ·
        refine ov (xassign rfl) rfl rfl rfl ?_
        refine ops_nil ?_
        refine run_cond_f rfl ?_
        refine run_skip ?_
        refine run_inBlock ?_
        refine run_seq ?_
        refine run_region ?_
        refine ov (xmove rfl) rfl rfl rfl ?_
        refine ov (xmove rfl) rfl rfl rfl ?_
        refine oc (xcall Try.call64 rfl) rfl rfl rfl (fill_ok _ _ _ ys10 _ _ _ _ _ _ vs _ G10 I10 hTB (H2.ext E) hv (areValues_noE c18)) ?_
        rintro _ w4 ⟨rfl, e4⟩
        have z4 := e4.size
        have E := E.trans e4
        replace G10 := G10.ext e4
        replace I10 := I10.ext e4
        replace G23 := G23.ext e4
        refine ov (xassign rfl) rfl rfl rfl ?_
        refine ov (xassign rfl) rfl rfl rfl ?_
        refine ops_nil ?_
        refine run_ret Try.func38 (res2 rfl rfl rfl) ?_
        have he := fill_of (rtI_some c12) vs
        rw [if_neg (by simp [c18]), if_neg (by omega)] at he
        exact ⟨_, rfl, by rw [he], E⟩
    ·
      refine ov (xnot rfl) rfl rfl rfl ?_
      refine ov (xassign rfl) rfl rfl rfl ?_
      refine ops_nil ?_
      refine run_cond_t rfl ?_
      refine run_seq ?_
      refine run_region ?_
      refine ov (xassign rfl) rfl rfl rfl ?_
      refine ov (xassign rfl) rfl rfl rfl ?_
      refine ops_nil ?_
      refine run_ret Try.func38 (res2 rfl rfl rfl) ?_
      have he := fill_of (rtI_some c12) vs
      rw [if_pos c18] at he
      exact ⟨_, rfl, by rw [he], E⟩
  ·
    refine ov (xassign rfl) rfl rfl rfl ?_
    refine ov (xassign rfl) rfl rfl rfl ?_
    refine ops_nil ?_
    refine run_seq ?_
    refine run_block ?_
    refine run_seq ?_
    refine run_region ?_
    refine ov (xmove rfl) rfl rfl rfl ?_
    refine ov (xnot rfl) rfl rfl rfl ?_
    refine ov (xassign rfl) rfl rfl rfl ?_
    refine ops_nil ?_
    refine run_cond_t rfl ?_
    refine run_seq ?_
    refine run_region ?_
    refine ov (xassign rfl) rfl rfl rfl ?_
    refine ov (xassign rfl) rfl rfl rfl ?_
    refine ops_nil ?_
    refine run_ret Try.func38 (res2 rfl rfl rfl) ?_
    have he : fillT s vs = (⟨#[]⟩, 6) := by rw [fillT, if_pos (show isTpl s = false from c12)]
    exact ⟨_, rfl, by rw [he], E⟩
end Go.Proofs.Ytgbedilaiefcbaa
