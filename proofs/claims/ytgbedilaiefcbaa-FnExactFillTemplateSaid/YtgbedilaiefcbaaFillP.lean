/-
  The program fills templates: the walks. No condition beyond those written in each theorem.
-/
import Derived.Test.YtgbedilaiefcbaaPlacF
namespace Go.Proofs.Ytgbedilaiefcbaa
open Go.RowKit
set_option linter.unusedVariables false
set_option linter.unusedSimpArgs false
set_option linter.unusedSectionVars false
set_option maxRecDepth 4000

theorem catT_nil : catT [] = ⟨#[]⟩ := rfl
attribute [local irreducible] at1 fstB untilT nextT fl al rp rt cutT isWord tail1 insT insAllT findV textOf rtI srtS catT pText

theorem app_empty (o : ByteArray) : o ++ (⟨#[]⟩ : ByteArray) = o := by show o ++ ByteArray.empty = o; simp
theorem catT_skip {α : Type} {f : α → ByteArray} {l : List α} {k : Nat} (hk : k < l.length) (h : f l[k] = ⟨#[]⟩) : catT ((l.take (k + 1)).map f) = catT ((l.take k).map f) := by
  rw [catT_step hk, h]; exact app_empty _
theorem fillZ_sec {vs : List Val} {z : TP} (h : z.sec = true) (h2 : ¬ (textOf vs z.name).1 = ⟨#[]⟩) : fillZ vs z = catT (z.inner.map (pText vs)) := by rw [fillZ, if_pos h, if_neg h2]
theorem fillZ_not {vs : List Val} {z : TP} (h : z.sec = true) (h2 : (textOf vs z.name).1 = ⟨#[]⟩) : fillZ vs z = ⟨#[]⟩ := by rw [fillZ, if_pos h, if_pos h2]
theorem fillZ_txt {vs : List Val} {z : TP} (hE : noE vs) (h : z.sec = false) : fillZ vs z = z.text ++ (textOf vs z.name).1 := by rw [fillZ, if_neg (by simp [h]), pText_eq hE]

set_option maxHeartbeats 2000000 in
theorem fillF_ok (p : Option Addr) (n c : Nat) (l : List PP) (q : Option Addr) (m d : Nat) (vs : List Val) (w : World) (H : Sl ppc 4 w p n c l) (H2 : Sl Val.cells 2 w q m d vs) (hv : ∀ (i : Nat) (h : i < vs.length), vs[i].Text.size ≤ 1048576) (hE : noE vs) (hl : l.length ≤ 1200) (hp : ∀ x ∈ l, x.1.size ≤ 600) : Ret Try.prog 64 [.slice p n c, .slice q m d] w (Pv w (.string (catT (l.map (pText vs))))) := by
  refine ret_of_run (N := 48) Try.func64 rfl rfl rfl ?_
  have hn := H.len
  have E : Ext w w := Ext.refl w
  refine run_seq ?_
  refine run_region ?_
  refine ov (xassign rfl) rfl rfl rfl ?_
  refine ops_nil ?_
  refine run_seq ?_
  refine run_region ?_
  refine ov (xassign rfl) rfl rfl rfl ?_
  refine ops_nil ?_
  refine run_seq ?_
  refine run_seq ?_
  refine run_region ?_
  refine ov (xmove rfl) rfl rfl rfl ?_
  refine ov (xlen Try.underlying73 rfl) rfl rfl rfl ?_
  refine ov (xmove rfl) rfl rfl rfl ?_
  refine ops_nil ?_
  refine run_block ?_
  refine run_loop (ι := Nat × ByteArray × World) (fun x_ => match x_ with | (k, o, wr) => (Ext w wr) ∧ (w.heap.size ≤ wr.heap.size) ∧ (k ≤ n) ∧ (o = catT ((l.take k).map (pText vs))) ∧ (o.size ≤ k * 1049176)) (fun x_ => match x_ with | (k, o, wr) => [(1, .slice q m d), (5, .string o), (10, .slice p n c), (11, .int .i64 (n : Int)), (12, .int .i64 (k : Int))]) (fun x_ => match x_ with | (k, o, wr) => wr) (fun x_ => match x_ with | (k, o, wr) => n - k) ?_ (0, ⟨#[]⟩, w) (⟨E, Nat.le_refl _, by omega, catT_nil.symm, Nat.zero_le _⟩) ⟨rfl, rfl, rfl, rfl, rfl, trivial⟩ rfl
  intro i_ hI_ hback3
  obtain ⟨k, o, wr⟩ := i_
  obtain ⟨E, lz_wr, hk, ho, hos⟩ := hI_
  try dsimp only
  have zr := E.size
  refine run_seq ?_
  refine run_region ?_
  refine ov (xlss rfl rfl _ rfl) rfl rfl rfl ?_
  refine ods (fun c13 => ?_) (fun c13 => ?_)
  ·
    have hpk := hp _ (List.getElem_mem (by omega : k < l.length))
    have hts := textOf_size hv l[k].2
    refine ops_nil ?_
    refine run_seq ?_
    refine run_cond_t rfl ?_
    refine run_skip ?_
    refine run_seq ?_
    refine run_block ?_
    refine run_seq ?_
    refine run_region ?_
    have h14 := (H.ext E).at (i := k) (by omega)
    refine ov (xindexN (i := k) Try.underlying73 Try.sizeOf77 rfl rfl rfl ((H.ext E).p (i := k) (by omega)) (by have := (H.ext E).len; omega)) rfl rfl rfl ?_
    refine ov (v := .agg #[.string l[k].1, .string l[k].2, .bool false, .slice none 0 0]) (xloadN Try.isAgg77 Try.sizeOf77 rfl (h14) rfl) rfl rfl rfl ?_
    refine oalloc Try.zeroValue77 rfl rfl ?_
    intro b1 w1 e1 hb1 hz1 O1
    have E := E.trans e1
    replace O1 : Own w1 b1 [.string ⟨#[]⟩, .string ⟨#[]⟩, .bool false, .slice none 0 0] 77 := O1
    refine ostoreN (vs := _) Try.sizeOf77 rfl rfl O1 rfl (by simp) (by simp [Value.oneCell']) rfl ?_
    intro w2 on2 O2
    have hz2 := on2.size
    have E := on2.ext E (by omega)
    replace O2 : Own w2 b1 [.string l[k].1, .string l[k].2, .bool false, .slice none 0 0] 77 := O2
    refine ops_nil ?_
    refine run_seq ?_
    refine run_region ?_
    refine ov (xmove rfl) rfl rfl rfl ?_
    refine ov (xfieldAddr fo77f1 rfl) rfl rfl rfl ?_
    refine ov (v := .string l[k].2) (xload1 Try.isAgg9 rfl (O2.cells) rfl) rfl rfl rfl ?_
    refine oc (xcall Try.call49 rfl) rfl rfl rfl (textOf_ok _ _ _ vs l[k].2 _ (H2.ext E)) ?_
    rintro _ w3 ⟨rfl, e3⟩
    have z3 := e3.size
    have E := E.trans e3
    replace O2 := O2.ext e3
    refine ov (xmove rfl) rfl rfl rfl ?_
    refine ov (xextract rfl rfl) rfl rfl rfl ?_
    refine ov (xextract rfl rfl) rfl rfl rfl ?_
    refine ov (xassign rfl) rfl rfl rfl ?_
    refine ov (xassign rfl) rfl rfl rfl ?_
    refine ops_nil ?_
    refine run_block ?_
    refine run_seq ?_
    refine run_region ?_
    refine ov (xfieldAddr fo77f2 rfl) rfl rfl rfl ?_
    refine ov (v := .bool false) (xload1 Try.isAgg4 rfl (O2.cells) rfl) rfl rfl rfl ?_
    refine obs (fun c25 => ?_) (fun c25 => ?_)
    · exfalso; cases c25
    ·
      refine ov (xmove rfl) rfl rfl rfl ?_
      refine og rfl rfl rfl ?_
      refine og rfl rfl rfl ?_
      refine ov (xpick_f rfl rfl) rfl rfl rfl ?_
      refine ov (xassign rfl) rfl rfl rfl ?_
      refine ops_nil ?_
      refine run_cond_f rfl ?_
      refine run_seq ?_
      refine run_region ?_
      refine ov (xfieldAddr fo77f2 rfl) rfl rfl rfl ?_
      refine ov (v := .bool false) (xload1 Try.isAgg4 rfl (O2.cells) rfl) rfl rfl rfl ?_
      refine obs (fun c38 => ?_) (fun c38 => ?_)
      · exfalso; cases c38
      ·
        refine ov (xnot rfl) rfl rfl rfl ?_
        refine ov (xassign rfl) rfl rfl rfl ?_
        refine ops_nil ?_
        refine run_cond_t rfl ?_
        refine run_region ?_
        refine ov (xmove rfl) rfl rfl rfl ?_
        refine ov (xfieldAddr fo77f0 rfl) rfl rfl rfl ?_
        refine ov (v := .string l[k].1) (xload1 Try.isAgg9 rfl (O2.cells) rfl) rfl rfl rfl ?_
        refine ov (xmove rfl) rfl rfl rfl ?_
        refine ov (xsadd rfl rfl (by omega)) rfl rfl rfl ?_
        refine ov (xsadd rfl rfl (by rw [ByteArray.size_append]; omega)) rfl rfl rfl ?_
        refine ov (xassign rfl) rfl rfl rfl ?_
        refine ops_nil ?_
        refine run_inBlock ?_
        refine run_inBlock ?_
        refine run_region ?_
        refine ov (xadd rfl rfl (by unfold I64; omega)) rfl rfl rfl ?_
        refine ov (xmove rfl) rfl rfl rfl ?_
        refine ops_nil ?_
        refine run_sub ?_ (hback3 (k + 1, (o ++ (l[k].1 ++ (textOf vs l[k].2).1)), w3) (⟨E, by omega, by omega, by rw [catT_step (by omega), ← ho, pText_eq hE], by simp only [ByteArray.size_append]; omega⟩) (by first | omega | (dsimp only; omega)))
        exact ⟨rfl, rfl, rfl, rfl, rfl, trivial⟩
  ·
    refine ops_nil ?_
    refine run_seq ?_
    refine run_cond_f rfl ?_
    refine run_exit rfl ?_
    refine run_seq ?_
    refine run_region ?_
    refine ov (xmove rfl) rfl rfl rfl ?_
    refine ov (xassign rfl) rfl rfl rfl ?_
    refine ops_nil ?_
    refine run_ret Try.func64 (res1 rfl rfl) ?_
    obtain rfl : k = n := by omega
    exact ⟨_, rfl, by rw [ho, List.take_of_length_le (by omega)], E⟩

set_option maxHeartbeats 4000000 in
theorem fill_ok (p : Option Addr) (n c : Nat) (ys : List Pt) (zs : List TP) (lo hi : Nat) (q : Option Addr) (m d : Nat) (vs : List Val) (w : World) (G : Ow Pt.cells 4 77 w lo hi p n c ys) (I : Ins 77 w lo hi ys zs) (hz : TB zs) (H2 : Sl Val.cells 2 w q m d vs) (hv : ∀ (i : Nat) (h : i < vs.length), vs[i].Text.size ≤ 1048576) (hE : noE vs) : Ret Try.prog 64 [.slice p n c, .slice q m d] w (Pv w (.string (catT (zs.map (fillZ vs))))) := by
  refine ret_of_run (N := 48) Try.func64 rfl rfl rfl ?_
  have hn := G.len
  have hnz := I.len
  have H := G.sl
  have hz1 := hz.1
  have E : Ext w w := Ext.refl w
  refine run_seq ?_
  refine run_region ?_
  refine ov (xassign rfl) rfl rfl rfl ?_
  refine ops_nil ?_
  refine run_seq ?_
  refine run_region ?_
  refine ov (xassign rfl) rfl rfl rfl ?_
  refine ops_nil ?_
  refine run_seq ?_
  refine run_seq ?_
  refine run_region ?_
  refine ov (xmove rfl) rfl rfl rfl ?_
  refine ov (xlen Try.underlying73 rfl) rfl rfl rfl ?_
  refine ov (xmove rfl) rfl rfl rfl ?_
  refine ops_nil ?_
  refine run_block ?_
  refine run_loop (ι := Nat × ByteArray × World) (fun x_ => match x_ with | (k, o, wr) => (Ext w wr) ∧ (w.heap.size ≤ wr.heap.size) ∧ (k ≤ n) ∧ (o = catT ((zs.take k).map (fillZ vs))) ∧ (o.size ≤ k * 1259011200)) (fun x_ => match x_ with | (k, o, wr) => [(1, .slice q m d), (5, .string o), (10, .slice p n c), (11, .int .i64 (n : Int)), (12, .int .i64 (k : Int))]) (fun x_ => match x_ with | (k, o, wr) => wr) (fun x_ => match x_ with | (k, o, wr) => n - k) ?_ (0, ⟨#[]⟩, w) (⟨E, Nat.le_refl _, by omega, catT_nil.symm, Nat.zero_le _⟩) ⟨rfl, rfl, rfl, rfl, rfl, trivial⟩ rfl
  intro i_ hI_ hback3
  obtain ⟨k, o, wr⟩ := i_
  obtain ⟨E, lz_wr, hk, ho, hos⟩ := hI_
  try dsimp only
  have zr := E.size
  refine run_seq ?_
  refine run_region ?_
  refine ov (xlss rfl rfl _ rfl) rfl rfl rfl ?_
  refine ods (fun c13 => ?_) (fun c13 => ?_)
  ·
    obtain ⟨hk2, hi1, hi2, hi3, hin⟩ := I.sec (k := k) (by omega)
    have hzk := hz.2 _ (List.getElem_mem hk2)
    have hts := textOf_size hv ys[k].name
    have hfz := fillZ_size hv hzk
    have hzt : ys[k].text.size ≤ 600 := by rw [hi1]; exact hzk.1
    refine ops_nil ?_
    refine run_seq ?_
    refine run_cond_t rfl ?_
    refine run_skip ?_
    refine run_seq ?_
    refine run_block ?_
    refine run_seq ?_
    refine run_region ?_
    have h14 := (H.ext E).at (i := k) (by omega)
    refine ov (xindexN (i := k) Try.underlying73 Try.sizeOf77 rfl rfl rfl ((H.ext E).p (i := k) (by omega)) (by have := (H.ext E).len; omega)) rfl rfl rfl ?_
    refine ov (v := .agg #[.string ys[k].text, .string ys[k].name, .bool ys[k].sec, .slice ys[k].p ys[k].n ys[k].c]) (xloadN Try.isAgg77 Try.sizeOf77 rfl (h14) rfl) rfl rfl rfl ?_
    refine oalloc Try.zeroValue77 rfl rfl ?_
    intro b1 w1 e1 hb1 hz1 O1
    have E := E.trans e1
    replace O1 : Own w1 b1 [.string ⟨#[]⟩, .string ⟨#[]⟩, .bool false, .slice none 0 0] 77 := O1
    refine ostoreN (vs := _) Try.sizeOf77 rfl rfl O1 rfl (by simp) (by simp [Value.oneCell']) rfl ?_
    intro w2 on2 O2
    have hz2 := on2.size
    have E := on2.ext E (by omega)
    replace O2 : Own w2 b1 [.string ys[k].text, .string ys[k].name, .bool ys[k].sec, .slice ys[k].p ys[k].n ys[k].c] 77 := O2
    refine ops_nil ?_
    refine run_seq ?_
    refine run_region ?_
    refine ov (xmove rfl) rfl rfl rfl ?_
    refine ov (xfieldAddr fo77f1 rfl) rfl rfl rfl ?_
    refine ov (v := .string ys[k].name) (xload1 Try.isAgg9 rfl (O2.cells) rfl) rfl rfl rfl ?_
    refine oc (xcall Try.call49 rfl) rfl rfl rfl (textOf_ok _ _ _ vs ys[k].name _ (H2.ext E)) ?_
    rintro _ w3 ⟨rfl, e3⟩
    have z3 := e3.size
    have E := E.trans e3
    replace O2 := O2.ext e3
    refine ov (xmove rfl) rfl rfl rfl ?_
    refine ov (xextract rfl rfl) rfl rfl rfl ?_
    refine ov (xextract rfl rfl) rfl rfl rfl ?_
    refine ov (xassign rfl) rfl rfl rfl ?_
    refine ov (xassign rfl) rfl rfl rfl ?_
    refine ops_nil ?_
    refine run_block ?_
    refine run_seq ?_
    refine run_region ?_
    refine ov (xfieldAddr fo77f2 rfl) rfl rfl rfl ?_
    refine ov (v := .bool ys[k].sec) (xload1 Try.isAgg4 rfl (O2.cells) rfl) rfl rfl rfl ?_
    refine obs (fun c25 => ?_) (fun c25 => ?_)
    ·
      refine ov (xmove rfl) rfl rfl rfl ?_
      refine ov (xmove rfl) rfl rfl rfl ?_
      refine ov (xsneq rfl rfl _ rfl) rfl rfl rfl ?_
      refine ods (fun c28 => ?_) (fun c28 => ?_)
      ·
        have hfe := fillZ_sec (vs := vs) (z := zs[k]) (by rw [← hi3]; exact c25) (by rw [← hi2]; exact c28)
        rw [hfe] at hfz
        refine ov (xpick_t rfl rfl) rfl rfl rfl ?_
        refine ov (xassign rfl) rfl rfl rfl ?_
        refine ops_nil ?_
        refine run_cond_t rfl ?_
        refine run_region ?_
        refine ov (xmove rfl) rfl rfl rfl ?_
        refine ov (xfieldAddr fo77f3 rfl) rfl rfl rfl ?_
        refine ov (v := .slice ys[k].p ys[k].n ys[k].c) (xload1 Try.isAgg73 rfl (O2.cells) rfl) rfl rfl rfl ?_
        refine ov (xmove rfl) rfl rfl rfl ?_
        refine oc (xcall Try.call64 rfl) rfl rfl rfl (fillF_ok _ _ _ zs[k].inner _ _ _ vs _ ((hin.ext E)) (H2.ext E) hv hE hzk.2.1 hzk.2.2) ?_
        rintro _ w4 ⟨rfl, e4⟩
        have z4 := e4.size
        have E := E.trans e4
        replace O2 := O2.ext e4
        refine ov (xsadd rfl rfl (by omega)) rfl rfl rfl ?_
        refine ov (xassign rfl) rfl rfl rfl ?_
        refine ops_nil ?_
        refine run_inBlock ?_
        refine run_inBlock ?_
        refine run_region ?_
        refine ov (xadd rfl rfl (by unfold I64; omega)) rfl rfl rfl ?_
        refine ov (xmove rfl) rfl rfl rfl ?_
        refine ops_nil ?_
        skip
        refine run_sub ?_ (hback3 (k + 1, (o ++ catT (zs[k].inner.map (pText vs))), w4) (⟨E, by omega, by omega, by rw [catT_step hk2, ← ho, hfe], by simp only [ByteArray.size_append]; omega⟩) (by first | omega | (dsimp only; omega)))
        exact ⟨rfl, rfl, rfl, rfl, rfl, trivial⟩
      ·
        have hfe := fillZ_not (vs := vs) (z := zs[k]) (by rw [← hi3]; exact c25) (by rw [← hi2]; exact Classical.not_not.1 c28)
        refine ov (xpick_t rfl rfl) rfl rfl rfl ?_
        refine ov (xassign rfl) rfl rfl rfl ?_
        refine ops_nil ?_
        refine run_cond_f rfl ?_
        refine run_seq ?_
        refine run_region ?_
        refine ov (xfieldAddr fo77f2 rfl) rfl rfl rfl ?_
        refine ov (v := .bool ys[k].sec) (xload1 Try.isAgg4 rfl (O2.cells) rfl) rfl rfl rfl ?_
        refine obs (fun c38 => ?_) (fun c38 => ?_)
        ·
          refine ov (xnot rfl) rfl rfl rfl ?_
          refine ov (xassign rfl) rfl rfl rfl ?_
          refine ops_nil ?_
          refine run_cond_f rfl ?_
          refine run_skip ?_
          refine run_inBlock ?_
          refine run_inBlock ?_
          refine run_region ?_
          refine ov (xadd rfl rfl (by unfold I64; omega)) rfl rfl rfl ?_
          refine ov (xmove rfl) rfl rfl rfl ?_
          refine ops_nil ?_
          have hx2 : catT ((zs.take (k+1)).map (fillZ vs)) = catT ((zs.take k).map (fillZ vs)) := catT_skip hk2 hfe
          refine run_sub ?_ (hback3 (k + 1, o, w3) (⟨E, by omega, by omega, ho.trans hx2.symm, Nat.le_trans hos (Nat.mul_le_mul_right _ (Nat.le_succ k))⟩) (by first | omega | (dsimp only; omega)))
          exact ⟨rfl, rfl, rfl, rfl, rfl, trivial⟩
        · exfalso; rw [c25] at c38; cases c38
    ·
      refine ov (xmove rfl) rfl rfl rfl ?_
      refine og rfl rfl rfl ?_
      refine og rfl rfl rfl ?_
      refine ov (xpick_f rfl rfl) rfl rfl rfl ?_
      refine ov (xassign rfl) rfl rfl rfl ?_
      refine ops_nil ?_
      refine run_cond_f rfl ?_
      refine run_seq ?_
      refine run_region ?_
      refine ov (xfieldAddr fo77f2 rfl) rfl rfl rfl ?_
      refine ov (v := .bool ys[k].sec) (xload1 Try.isAgg4 rfl (O2.cells) rfl) rfl rfl rfl ?_
      refine obs (fun c38 => ?_) (fun c38 => ?_)
      · exfalso; rw [c25] at c38; cases c38
      ·
        refine ov (xnot rfl) rfl rfl rfl ?_
        refine ov (xassign rfl) rfl rfl rfl ?_
        refine ops_nil ?_
        refine run_cond_t rfl ?_
        refine run_region ?_
        refine ov (xmove rfl) rfl rfl rfl ?_
        refine ov (xfieldAddr fo77f0 rfl) rfl rfl rfl ?_
        refine ov (v := .string ys[k].text) (xload1 Try.isAgg9 rfl (O2.cells) rfl) rfl rfl rfl ?_
        refine ov (xmove rfl) rfl rfl rfl ?_
        refine ov (xsadd rfl rfl (by omega)) rfl rfl rfl ?_
        refine ov (xsadd rfl rfl (by rw [ByteArray.size_append]; omega)) rfl rfl rfl ?_
        refine ov (xassign rfl) rfl rfl rfl ?_
        refine ops_nil ?_
        refine run_inBlock ?_
        refine run_inBlock ?_
        refine run_region ?_
        refine ov (xadd rfl rfl (by unfold I64; omega)) rfl rfl rfl ?_
        refine ov (xmove rfl) rfl rfl rfl ?_
        refine ops_nil ?_
        skip
        refine run_sub ?_ (hback3 (k + 1, (o ++ (ys[k].text ++ (textOf vs ys[k].name).1)), w3) (⟨E, by omega, by omega, by rw [catT_step hk2, ← ho, fillZ_txt hE (by rw [← hi3]; exact c25), ← hi1, ← hi2], by simp only [ByteArray.size_append]; omega⟩) (by first | omega | (dsimp only; omega)))
        exact ⟨rfl, rfl, rfl, rfl, rfl, trivial⟩
  ·
    refine ops_nil ?_
    refine run_seq ?_
    refine run_cond_f rfl ?_
    refine run_exit rfl ?_
    refine run_seq ?_
    refine run_region ?_
    refine ov (xmove rfl) rfl rfl rfl ?_
    refine ov (xassign rfl) rfl rfl rfl ?_
    refine ops_nil ?_
    refine run_ret Try.func64 (res1 rfl rfl) ?_
    obtain rfl : k = n := by omega
    exact ⟨_, rfl, by rw [ho, List.take_of_length_le (by omega)], E⟩
end Go.Proofs.Ytgbedilaiefcbaa
