/-
  The program on templates: the walks. No condition beyond those written in each theorem.
-/
import Derived.Test.YtgbedilaiefcbaaFillF
import Derived.Test.YtgbedilaiefcbaaReadT
namespace Go.Proofs.Ytgbedilaiefcbaa
open Go.RowKit
set_option linter.unusedVariables false
set_option linter.unusedSimpArgs false
set_option linter.unusedSectionVars false
set_option maxRecDepth 4000

/-- the bounds on the parts of a template -/
def TB (l : List TP) : Prop := l.length ≤ 2400 ∧ ∀ z ∈ l, z.text.size ≤ 600 ∧ z.inner.length ≤ 1200 ∧ ∀ p ∈ z.inner, p.1.size ≤ 600
theorem rp_texts : ∀ (f : Nat) (t : ByteArray), t.size < f → ∀ p ∈ (rp t).getD [], p.1.size ≤ t.size
  | 0, t, h => by omega
  | f + 1, t, h => by
    by_cases h0 : t.size = 0
    · rw [rp_empty h0]; intro p hp; cases hp
    · by_cases h1 : at1 sp5 t < t.size
      · by_cases h3 : bAt t (at1 sp5 t) = 123 ∧ at1 (isB 125) (tail1 t (at1 sp5 t)) < (tail1 t (at1 sp5 t)).size ∧ isWord ((tail1 t (at1 sp5 t)).extract 0 (at1 (isB 125) (tail1 t (at1 sp5 t)))) = true
        · rw [rp_step h0 h1 h3]
          have a := tail1_size t h1
          have b := tail1_size _ h3.2.1
          have c := rp_texts f (tail1 (tail1 t (at1 sp5 t)) (at1 (isB 125) (tail1 t (at1 sp5 t)))) (by omega)
          cases he : rp (tail1 (tail1 t (at1 sp5 t)) (at1 (isB 125) (tail1 t (at1 sp5 t)))) with
          | none => intro p hp; cases hp
          | some l =>
            rw [he] at c
            intro p hp
            rw [Option.map_some, Option.getD_some] at hp
            rcases List.mem_append.1 hp with m | m
            · rcases List.mem_cons.1 m with m | m
              · subst m; simp only [ByteArray.size_extract]; omega
              · rw [List.mem_singleton] at m; subst m; exact Nat.zero_le _
            · have := c p m; omega
        · rw [rp_wrong h0 h1 h3]; intro p hp; cases hp
      · rw [rp_text h0 h1]
        intro p hp
        rw [Option.getD_some, List.mem_singleton] at hp
        subst hp; exact Nat.le_refl _
theorem rt_bnd : ∀ (f : Nat) (t : ByteArray), t.size < f → ((rt t).getD []).length ≤ 4 * t.size ∧ ∀ z ∈ (rt t).getD [], z.text.size ≤ t.size ∧ z.inner.length ≤ 2 * t.size ∧ ∀ p ∈ z.inner, p.1.size ≤ t.size
  | 0, t, h => by omega
  | f + 1, t, h => by
    rw [rt_cut]
    have c1 := cutT_le t 91
    have l1 := rp_len' (cutT t 91).1
    have x1 := rp_texts _ (cutT t 91).1 (Nat.lt_succ_self _)
    have hof : ∀ (l : List PP), (∀ p ∈ l, p.1.size ≤ (cutT t 91).1.size) → ∀ z ∈ l.map TP.of, z.text.size ≤ t.size ∧ z.inner.length ≤ 2 * t.size ∧ ∀ p ∈ z.inner, p.1.size ≤ t.size := fun l hl z hz => by
      obtain ⟨p, hp, rfl⟩ := List.mem_map.1 hz
      have := hl p hp
      refine ⟨by simp only [TP.of]; omega, Nat.zero_le _, fun q hq => by cases hq⟩
    cases h1 : rp (cutT t 91).1 with
    | none => exact ⟨Nat.zero_le _, fun z hz => by cases hz⟩
    | some l =>
      rw [h1, Option.getD_some] at l1 x1
      rw [Option.bind_some]
      by_cases h2 : (cutT t 91).2.2 = true
      · rw [if_pos h2]
        have s2 := cutT_sum h2
        by_cases h3 : (cutT (cutT t 91).2.1 93).2.2 = true ∧ (cutT (cutT (cutT t 91).2.1 93).1 124).2.2 = true ∧ isWord (cutT (cutT (cutT t 91).2.1 93).1 124).1 = true
        · rw [if_pos h3]
          have s3 := cutT_sum h3.1
          have s4 := cutT_sum h3.2.1
          have l2 := rp_len' (cutT (cutT (cutT t 91).2.1 93).1 124).2.1
          have x2 := rp_texts _ (cutT (cutT (cutT t 91).2.1 93).1 124).2.1 (Nat.lt_succ_self _)
          cases h4 : rp (cutT (cutT (cutT t 91).2.1 93).1 124).2.1 with
          | none => exact ⟨Nat.zero_le _, fun z hz => by cases hz⟩
          | some i =>
            rw [h4, Option.getD_some] at l2 x2
            rw [Option.bind_some]
            obtain ⟨r1, r2⟩ := rt_bnd f (cutT (cutT t 91).2.1 93).2.1 (by omega)
            cases h5 : rt (cutT (cutT t 91).2.1 93).2.1 with
            | none => exact ⟨Nat.zero_le _, fun z hz => by cases hz⟩
            | some r =>
              rw [h5, Option.getD_some] at r1 r2
              rw [Option.map_some, Option.getD_some]
              refine ⟨by simp only [List.length_append, List.length_map, List.length_cons]; omega, fun z hz => ?_⟩
              rcases List.mem_append.1 hz with m | m
              · exact hof l x1 z m
              · rcases List.mem_cons.1 m with m | m
                · subst m
                  refine ⟨Nat.zero_le _, by simp only; omega, fun p hp => ?_⟩
                  have := x2 p hp; omega
                · obtain ⟨a, b, c⟩ := r2 z m
                  exact ⟨by omega, by omega, fun p hp => by have := c p hp; omega⟩
        · rw [if_neg h3]; exact ⟨Nat.zero_le _, fun z hz => by cases hz⟩
      · rw [if_neg h2, Option.getD_some]
        exact ⟨by rw [List.length_map]; omega, hof l x1⟩
theorem rtI_TB (s : ByteArray) : TB ((rtI s).getD []) := by
  by_cases h : isPlain s 600 = true
  · obtain ⟨_, h2⟩ := isPlain_asc h
    rw [rtI, if_pos h]
    obtain ⟨a, b⟩ := rt_bnd _ s (Nat.lt_succ_self _)
    refine ⟨by omega, fun z hz => ?_⟩
    obtain ⟨c, d, e⟩ := b z hz
    exact ⟨by omega, by omega, fun p hp => by have := e p hp; omega⟩
  · rw [rtI, if_neg h]; exact ⟨Nat.zero_le _, fun z hz => by cases hz⟩
/-- a piece as it lies in memory -/
def ppc (x : PP) : List Value := [.string x.1, .string x.2, .bool false, .slice none 0 0]
theorem sl_pp {w : World} {p : Option Addr} {n c : Nat} {l : List PP} (h : Sl Pt.cells 4 w p n c (l.map Pt.pp)) : Sl ppc 4 w p n c l := by
  refine ⟨by have := h.len; rw [List.length_map] at this; exact this, h.cap, h.big, h.ptr, fun i hi => ?_, h.nil⟩
  have := h.el i (by rw [List.length_map]; exact hi)
  simp only [List.getElem_map] at this
  exact this
theorem ne_of_at {q q' : Option Addr} {w : World} (h : q' = q ∨ w.heap.size ≤ pb q') (hq : q ≠ none) (hw : 0 < w.heap.size) : q' ≠ none := by
  rcases h with h | h
  · rw [h]; exact hq
  · intro e; rw [e] at h; simp only [pb, Option.getD_none] at h; omega
theorem flat_step {α β : Type} {f : α → List β} {l : List α} {k : Nat} (hk : k < l.length) : (l.take (k + 1)).flatMap f = (l.take k).flatMap f ++ f l[k] := by
  rw [List.take_succ_eq_append_getElem hk, List.flatMap_append]; simp
theorem flat_len {α β : Type} {f : α → List β} {B : Nat} : ∀ {l : List α}, (∀ x ∈ l, (f x).length ≤ B) → (l.flatMap f).length ≤ l.length * B
  | [], _ => by simp
  | x :: r, h => by
    have := flat_len (l := r) (f := f) (B := B) fun y hy => h y (List.mem_cons_of_mem _ hy)
    have := h x List.mem_cons_self
    simp only [List.flatMap_cons, List.length_append, List.length_cons, Nat.add_mul]; omega
theorem nameP_len (p : PP) : (nameP p).length ≤ 1 := by unfold nameP; split <;> simp
theorem catT_step {α : Type} {f : α → ByteArray} {l : List α} {k : Nat} (hk : k < l.length) : catT ((l.take (k + 1)).map f) = catT ((l.take k).map f) ++ f l[k] := by
  rw [List.take_succ_eq_append_getElem hk, List.map_append, catT_app, List.map_cons, List.map_nil, catT_cons]
  show _ ++ (f l[k] ++ ByteArray.empty) = _
  simp
theorem catT_size {l : List ByteArray} {B : Nat} : (∀ x ∈ l, x.size ≤ B) → (catT l).size ≤ l.length * B := by
  induction l with
  | nil => intro _; exact Nat.zero_le _
  | cons x r ih =>
    intro h
    have := ih fun y hy => h y (List.mem_cons_of_mem _ hy)
    have := h x List.mem_cons_self
    rw [catT_cons, ByteArray.size_append, List.length_cons, Nat.add_mul]; omega
theorem textOf_size {vs : List Val} (hv : ∀ (i : Nat) (h : i < vs.length), vs[i].Text.size ≤ 1048576) (n : ByteArray) : (textOf vs n).1.size ≤ 1048576 := by
  by_cases h : findV vs n < 0
  · rw [textOf_no h]; exact Nat.zero_le _
  · obtain ⟨h1, _, _⟩ := textOf_at h
    rw [textOf_get h h1]; exact hv _ h1
theorem pText_size {vs : List Val} (hv : ∀ (i : Nat) (h : i < vs.length), vs[i].Text.size ≤ 1048576) (p : PP) : (pText vs p).size ≤ p.1.size + 1048576 := by
  unfold pText
  rw [ByteArray.size_append]
  split
  · exact Nat.le_add_right _ _
  · have := textOf_size hv p.2; omega
theorem fillZ_size {vs : List Val} (hv : ∀ (i : Nat) (h : i < vs.length), vs[i].Text.size ≤ 1048576) {z : TP} (h : z.text.size ≤ 600 ∧ z.inner.length ≤ 1200 ∧ ∀ p ∈ z.inner, p.1.size ≤ 600) : (fillZ vs z).size ≤ 1259011200 := by
  unfold fillZ
  split
  · split
    · exact Nat.zero_le _
    · have := catT_size (l := z.inner.map (pText vs)) (B := 1049176) fun x hx => by
        obtain ⟨p, hp, rfl⟩ := List.mem_map.1 hx
        have := pText_size hv p
        have := h.2.2 p hp
        omega
      rw [List.length_map] at this
      have h2 : z.inner.length * 1049176 ≤ 1200 * 1049176 := Nat.mul_le_mul_right _ h.2.1
      omega
  · have := pText_size hv (z.text, z.name)
    simp only at this
    omega
/-- no value has an empty name -/
def noE (vs : List Val) : Prop := (textOf vs ⟨#[]⟩).1 = ⟨#[]⟩
theorem pText_eq {vs : List Val} (h : noE vs) (p : PP) : pText vs p = p.1 ++ (textOf vs p.2).1 := by
  unfold pText
  split
  · rename_i e; rw [e, h]
  · rfl
theorem areValues_noE {vs : List Val} (h : areValues vs = true) : noE vs := by
  refine textOf_no ?_
  have := findI_none (xs := vs) (f := fun y => decide (y.Name = ⟨#[]⟩)) fun j hj => ?_
  · unfold findV; omega
  · simp only [areValues, Bool.and_eq_true] at h
    have h2 := allB_iff.1 h.1 j hj
    rw [allI_of hj] at h2
    simp only [valP, Bool.and_eq_true] at h2
    exact decide_eq_false (isWord_ne h2.1.1)
theorem Ins.sec {T : TypeId} {w : World} {lo hi : Nat} {xs : List Pt} {zs : List TP} {k : Nat} (h : Ins T w lo hi xs zs) (h1 : k < xs.length) : ∃ h2 : k < zs.length, xs[k].text = zs[k].text ∧ xs[k].name = zs[k].name ∧ xs[k].sec = zs[k].sec ∧ Sl ppc 4 w xs[k].p xs[k].n xs[k].c zs[k].inner := by
  have h2 : k < zs.length := by rw [← h.len]; exact h1
  have g := h.get h1 h2
  exact ⟨h2, g.1, g.2.1, g.2.2.1, sl_pp g.2.2.2.sl⟩
attribute [local irreducible] at1 fstB untilT nextT fl al rp rt cutT isWord tail1 insT insAllT findV textOf rtI srtS

set_option maxHeartbeats 2000000 in
theorem placesF_ok (p : Option Addr) (n c : Nat) (l : List PP) (w : World) (H : Sl ppc 4 w p n c l) (hl : l.length ≤ 1200) (g : FuncId) (caps : List Value) (acc : ByteArray → Bool) (hg : ∀ args w, (callFunc g args).run Try.prog w = .ok (.enter g args) w) (hf : ∀ (w' : World), Ext w w' → ∀ x : ByteArray, Ret Try.prog g ([.string x] ++ caps) w' (Pv w' (.bool (acc x)))) : Ret Try.prog 60 [.slice p n c, .func (.func g) #[] caps.toArray] w (fun v w' => Ext w w' ∧ ∃ q m d, v = .slice q m d ∧ q ≠ none ∧ Ow strc 1 9 w' w.heap.size w'.heap.size q m d (l.flatMap nameP)) := by
  refine ret_of_run (N := 46) Try.func60 rfl rfl rfl ?_
  have hn := H.len
  have E : Ext w w := Ext.refl w
  refine run_seq ?_
  refine run_region ?_
  refine ov (xassign rfl) rfl rfl rfl ?_
  refine ops_nil ?_
  refine run_seq ?_
  refine run_region ?_
  refine obuild (cs := []) (sz := 1) Try.underlying48 inf9 rfl rfl (by decide) rfl rfl (by simp [Value.cells]) rfl rfl rfl ?_
  intro b1 w1 e1 hb1 hz1 O1
  have E := E.trans e1
  have G1 : Ow strc 1 9 w1 b1 (b1 + 1) (some ⟨b1, 0, none⟩) 0 0 ([] : List ByteArray) := Own.ow (by simpa [strc] using O1) rfl (by omega) (Nat.le_refl _) (by omega) (by intro x hx; rfl)
  refine ov (xassign rfl) rfl rfl rfl ?_
  refine ops_nil ?_
  refine run_seq ?_
  refine run_seq ?_
  refine run_region ?_
  refine ov (xmove rfl) rfl rfl rfl ?_
  refine ov (xlen Try.underlying73 rfl) rfl rfl rfl ?_
  refine ov (xmove rfl) rfl rfl rfl ?_
  refine ops_nil ?_
  refine run_block ?_
  refine run_loop (ι := Nat × Option Addr × Nat × Nat × List ByteArray × World) (fun x_ => match x_ with | (k, q_5, m_5, c_5, ys_5, wr) => (Ext w wr) ∧ (Ow strc 1 9 wr b1 wr.heap.size q_5 m_5 c_5 ys_5) ∧ (b1 ≤ wr.heap.size) ∧ (w1.heap.size ≤ wr.heap.size) ∧ (k ≤ n) ∧ (ys_5 = (l.take k).flatMap nameP) ∧ (q_5 ≠ none) ∧ (m_5 ≤ k)) (fun x_ => match x_ with | (k, q_5, m_5, c_5, ys_5, wr) => [(1, .func (.func g) #[] caps.toArray), (5, .slice q_5 m_5 c_5), (9, .slice p n c), (10, .int .i64 (n : Int)), (11, .int .i64 (k : Int))]) (fun x_ => match x_ with | (k, q_5, m_5, c_5, ys_5, wr) => wr) (fun x_ => match x_ with | (k, q_5, m_5, c_5, ys_5, wr) => n - k) ?_ (0, (some ⟨b1, 0, none⟩), 0, 0, [], w1) (⟨E, G1.wide (by omega) (by omega), by omega, Nat.le_refl _, by omega, rfl, (by intro h; cases h), by omega⟩) ⟨rfl, rfl, rfl, rfl, rfl, trivial⟩ rfl
  intro i_ hI_ hback3
  obtain ⟨k, q_5, m_5, c_5, ys_5, wr⟩ := i_
  obtain ⟨E, G_5, lo_5, lz_wr, hk, hy, hq5, hm5⟩ := hI_
  try dsimp only
  have zr := E.size
  have lg_5 := G_5.len
  refine run_seq ?_
  refine run_region ?_
  refine ov (xlss rfl rfl _ rfl) rfl rfl rfl ?_
  refine ods (fun c12 => ?_) (fun c12 => ?_)
  ·
    refine ops_nil ?_
    refine run_seq ?_
    refine run_cond_t rfl ?_
    refine run_skip ?_
    refine run_seq ?_
    refine run_block ?_
    refine run_seq ?_
    refine run_region ?_
    have h13 := (H.ext E).at (i := k) (by omega)
    refine ov (xindexN (i := k) Try.underlying73 Try.sizeOf77 rfl rfl rfl ((H.ext E).p (i := k) (by omega)) (by have := (H.ext E).len; omega)) rfl rfl rfl ?_
    refine ov (v := .agg #[.string l[k].1, .string l[k].2, .bool false, .slice none 0 0]) (xloadN Try.isAgg77 Try.sizeOf77 rfl (h13) rfl) rfl rfl rfl ?_
    refine oalloc Try.zeroValue77 rfl rfl ?_
    intro b2 w2 e2 hb2 hz2 O2
    have E := E.trans e2
    replace G_5 := G_5.ext e2
    replace O2 : Own w2 b2 [.string ⟨#[]⟩, .string ⟨#[]⟩, .bool false, .slice none 0 0] 77 := O2
    refine ostoreN (vs := _) Try.sizeOf77 rfl rfl O2 rfl (by simp) (by simp [Value.oneCell']) rfl ?_
    intro w3 on3 O3
    have hz3 := on3.size
    have E := on3.ext E (by omega)
    replace G_5 := G_5.only on3 (by omega)
    replace O3 : Own w3 b2 [.string l[k].1, .string l[k].2, .bool false, .slice none 0 0] 77 := O3
    refine ops_nil ?_
    refine run_block ?_
    refine run_seq ?_
    refine run_region ?_
    refine ov (xfieldAddr fo77f2 rfl) rfl rfl rfl ?_
    refine ov (v := .bool false) (xload1 Try.isAgg4 rfl (O3.cells) rfl) rfl rfl rfl ?_
    refine obs (fun c17 => ?_) (fun c17 => ?_)
    · exfalso; cases c17
    ·
      refine ov (xmove rfl) rfl rfl rfl ?_
      refine og rfl rfl rfl ?_
      refine og rfl rfl rfl ?_
      refine og rfl rfl rfl ?_
      refine og rfl rfl rfl ?_
      refine ov (xpick_f rfl rfl) rfl rfl rfl ?_
      refine ov (xassign rfl) rfl rfl rfl ?_
      refine ops_nil ?_
      refine run_cond_f rfl ?_
      refine run_seq ?_
      refine run_region ?_
      refine ov (xfieldAddr fo77f2 rfl) rfl rfl rfl ?_
      refine ov (v := .bool false) (xload1 Try.isAgg4 rfl (O3.cells) rfl) rfl rfl rfl ?_
      refine obs (fun c32 => ?_) (fun c32 => ?_)
      · exfalso; cases c32
      ·
        refine ov (xnot rfl) rfl rfl rfl ?_
        refine ov (xmove rfl) rfl rfl rfl ?_
        refine ov (xfieldAddr fo77f1 rfl) rfl rfl rfl ?_
        refine ov (v := .string l[k].2) (xload1 Try.isAgg9 rfl (O3.cells) rfl) rfl rfl rfl ?_
        refine ov (xsneq rfl rfl _ rfl) rfl rfl rfl ?_
        refine ods (fun c37 => ?_) (fun c37 => ?_)
        ·
          refine ov (xpick_t rfl rfl) rfl rfl rfl ?_
          refine ov (xassign rfl) rfl rfl rfl ?_
          refine ops_nil ?_
          refine run_cond_t rfl ?_
          refine run_region ?_
          refine ov (xmove rfl) rfl rfl rfl ?_
          refine ov (xfieldAddr fo77f1 rfl) rfl rfl rfl ?_
          refine ov (v := .string l[k].2) (xload1 Try.isAgg9 rfl (O3.cells) rfl) rfl rfl rfl ?_
          refine obuild (cs := [.string l[k].2]) (sz := 1) Try.underlying48 inf9 rfl rfl (by decide) rfl rfl (by simp [Value.cells]) rfl rfl rfl ?_
          intro b4 w4 e4 hb4 hz4 O4
          have E := E.trans e4
          replace G_5 := G_5.ext e4
          replace O3 := O3.ext e4
          refine oapp2 (bytes := 16) (nm := (m_5 + 1)) G_5 rfl rfl elem9 (Own.sl1 (y := l[k].2) O4) (by intro h; cases h) (by intro y hy; rfl) (by intro y hy u hu; rw [List.mem_singleton] at hy; subst hy; revert u; simp [Value.oneCell', strc]) (by omega) (by omega) (by omega) (by omega) rfl rfl ?_
          intro p5 c5_ w5 m5 k5 hat43 G5
          have hh5 := hend_le q_5
          have hz5 := m5.size
          have E := m5.toExt E (by omega)
          try replace O3 := m5.own O3 (by omega)
          try replace O4 := m5.own O4 (by omega)
          refine ov (xassign rfl) rfl rfl rfl ?_
          refine ops_nil ?_
          refine run_inBlock ?_
          refine run_inBlock ?_
          refine run_region ?_
          refine ov (xadd rfl rfl (by unfold I64; omega)) rfl rfl rfl ?_
          refine ov (xmove rfl) rfl rfl rfl ?_
          refine ops_nil ?_
          refine run_sub ?_ (hback3 (k + 1, p5, (m_5 + 1), c5_, (ys_5 ++ [l[k].2]), w5) (⟨E, G5.wide (by omega) (by omega), by omega, by omega, by omega, by rw [flat_step (by omega), ← hy, nameP, if_neg c37], ne_of_at hat43 hq5 (by omega), by omega⟩) (by first | omega | (dsimp only; omega)))
          exact ⟨rfl, rfl, rfl, rfl, rfl, trivial⟩
        ·
          refine ov (xpick_t rfl rfl) rfl rfl rfl ?_
          refine ov (xassign rfl) rfl rfl rfl ?_
          refine ops_nil ?_
          refine run_cond_f rfl ?_
          refine run_skip ?_
          refine run_inBlock ?_
          refine run_inBlock ?_
          refine run_region ?_
          refine ov (xadd rfl rfl (by unfold I64; omega)) rfl rfl rfl ?_
          refine ov (xmove rfl) rfl rfl rfl ?_
          refine ops_nil ?_
          refine run_sub ?_ (hback3 (k + 1, q_5, m_5, c_5, ys_5, w3) (⟨E, G_5.wide (by omega) (by omega), by omega, by omega, by omega, by rw [flat_step (by omega), ← hy, nameP, if_pos (Classical.not_not.1 c37), List.append_nil], hq5, by omega⟩) (by first | omega | (dsimp only; omega)))
          exact ⟨rfl, rfl, rfl, rfl, rfl, trivial⟩
  ·
    refine ops_nil ?_
    refine run_seq ?_
    refine run_cond_f rfl ?_
    refine run_exit rfl ?_
    refine run_seq ?_
    refine run_region ?_
    refine ov (xmove rfl) rfl rfl rfl ?_
    refine ov (xassign rfl) rfl rfl rfl ?_
    refine ops_nil ?_
    refine run_ret Try.func60 (res1 rfl rfl) ?_
    obtain rfl : k = n := by omega
    have he : ys_5 = l.flatMap nameP := by rw [hy, List.take_of_length_le (by omega)]
    exact ⟨_, rfl, E, _, _, _, rfl, hq5, by rw [← he]; exact G_5.wide (by omega) (by omega)⟩

set_option maxHeartbeats 4000000 in
theorem places_ok (p : Option Addr) (n c : Nat) (ys : List Pt) (zs : List TP) (lo hi : Nat) (w : World) (G : Ow Pt.cells 4 77 w lo hi p n c ys) (I : Ins 77 w lo hi ys zs) (hz : TB zs) (g : FuncId) (caps : List Value) (acc : ByteArray → Bool) (hg : ∀ args w, (callFunc g args).run Try.prog w = .ok (.enter g args) w) (hf : ∀ (w' : World), Ext w w' → ∀ x : ByteArray, Ret Try.prog g ([.string x] ++ caps) w' (Pv w' (.bool (acc x)))) : Ret Try.prog 60 [.slice p n c, .func (.func g) #[] caps.toArray] w (fun v w' => Ext w w' ∧ ∃ q m d, v = .slice q m d ∧ q ≠ none ∧ Ow strc 1 9 w' w.heap.size w'.heap.size q m d (zs.flatMap (stepP acc))) := by
  refine ret_of_run (N := 46) Try.func60 rfl rfl rfl ?_
  have hn := G.len
  have hnz := I.len
  have H := G.sl
  have hz1 := hz.1
  have E : Ext w w := Ext.refl w
  refine run_seq ?_
  refine run_region ?_
  refine ov (xassign rfl) rfl rfl rfl ?_
  refine ops_nil ?_
  refine run_seq ?_
  refine run_region ?_
  refine obuild (cs := []) (sz := 1) Try.underlying48 inf9 rfl rfl (by decide) rfl rfl (by simp [Value.cells]) rfl rfl rfl ?_
  intro b1 w1 e1 hb1 hz1 O1
  have E := E.trans e1
  have G1 : Ow strc 1 9 w1 b1 (b1 + 1) (some ⟨b1, 0, none⟩) 0 0 ([] : List ByteArray) := Own.ow (by simpa [strc] using O1) rfl (by omega) (Nat.le_refl _) (by omega) (by intro x hx; rfl)
  refine ov (xassign rfl) rfl rfl rfl ?_
  refine ops_nil ?_
  refine run_seq ?_
  refine run_seq ?_
  refine run_region ?_
  refine ov (xmove rfl) rfl rfl rfl ?_
  refine ov (xlen Try.underlying73 rfl) rfl rfl rfl ?_
  refine ov (xmove rfl) rfl rfl rfl ?_
  refine ops_nil ?_
  refine run_block ?_
  refine run_loop (ι := Nat × Option Addr × Nat × Nat × List ByteArray × World) (fun x_ => match x_ with | (k, q_5, m_5, c_5, ys_5, wr) => (Ext w wr) ∧ (Ow strc 1 9 wr b1 wr.heap.size q_5 m_5 c_5 ys_5) ∧ (b1 ≤ wr.heap.size) ∧ (w1.heap.size ≤ wr.heap.size) ∧ (k ≤ n) ∧ (ys_5 = (zs.take k).flatMap (stepP acc)) ∧ (q_5 ≠ none) ∧ (m_5 ≤ k * 1201)) (fun x_ => match x_ with | (k, q_5, m_5, c_5, ys_5, wr) => [(1, .func (.func g) #[] caps.toArray), (5, .slice q_5 m_5 c_5), (9, .slice p n c), (10, .int .i64 (n : Int)), (11, .int .i64 (k : Int))]) (fun x_ => match x_ with | (k, q_5, m_5, c_5, ys_5, wr) => wr) (fun x_ => match x_ with | (k, q_5, m_5, c_5, ys_5, wr) => n - k) ?_ (0, (some ⟨b1, 0, none⟩), 0, 0, [], w1) (⟨E, G1.wide (by omega) (by omega), by omega, Nat.le_refl _, by omega, rfl, (by intro h; cases h), by omega⟩) ⟨rfl, rfl, rfl, rfl, rfl, trivial⟩ rfl
  intro i_ hI_ hback3
  obtain ⟨k, q_5, m_5, c_5, ys_5, wr⟩ := i_
  obtain ⟨E, G_5, lo_5, lz_wr, hk, hy, hq5, hm5⟩ := hI_
  try dsimp only
  have zr := E.size
  have lg_5 := G_5.len
  refine run_seq ?_
  refine run_region ?_
  refine ov (xlss rfl rfl _ rfl) rfl rfl rfl ?_
  refine ods (fun c12 => ?_) (fun c12 => ?_)
  ·
    obtain ⟨hk2, hi1, hi2, hi3, hin⟩ := I.sec (k := k) (by omega)
    have hzk := hz.2 _ (List.getElem_mem hk2)
    have hfl := flat_len (B := 1) (l := zs[k].inner) (f := nameP) fun x _ => nameP_len x
    refine ops_nil ?_
    refine run_seq ?_
    refine run_cond_t rfl ?_
    refine run_skip ?_
    refine run_seq ?_
    refine run_block ?_
    refine run_seq ?_
    refine run_region ?_
    have h13 := (H.ext E).at (i := k) (by omega)
    refine ov (xindexN (i := k) Try.underlying73 Try.sizeOf77 rfl rfl rfl ((H.ext E).p (i := k) (by omega)) (by have := (H.ext E).len; omega)) rfl rfl rfl ?_
    refine ov (v := .agg #[.string ys[k].text, .string ys[k].name, .bool ys[k].sec, .slice ys[k].p ys[k].n ys[k].c]) (xloadN Try.isAgg77 Try.sizeOf77 rfl (h13) rfl) rfl rfl rfl ?_
    refine oalloc Try.zeroValue77 rfl rfl ?_
    intro b2 w2 e2 hb2 hz2 O2
    have E := E.trans e2
    replace G_5 := G_5.ext e2
    replace O2 : Own w2 b2 [.string ⟨#[]⟩, .string ⟨#[]⟩, .bool false, .slice none 0 0] 77 := O2
    refine ostoreN (vs := _) Try.sizeOf77 rfl rfl O2 rfl (by simp) (by simp [Value.oneCell']) rfl ?_
    intro w3 on3 O3
    have hz3 := on3.size
    have E := on3.ext E (by omega)
    replace G_5 := G_5.only on3 (by omega)
    replace O3 : Own w3 b2 [.string ys[k].text, .string ys[k].name, .bool ys[k].sec, .slice ys[k].p ys[k].n ys[k].c] 77 := O3
    refine ops_nil ?_
    refine run_block ?_
    refine run_seq ?_
    refine run_region ?_
    refine ov (xfieldAddr fo77f2 rfl) rfl rfl rfl ?_
    refine ov (v := .bool ys[k].sec) (xload1 Try.isAgg4 rfl (O3.cells) rfl) rfl rfl rfl ?_
    refine obs (fun c17 => ?_) (fun c17 => ?_)
    ·
      refine ov (xmove rfl) rfl rfl rfl ?_
      refine ov (xmove rfl) rfl rfl rfl ?_
      refine ov (xfieldAddr fo77f1 rfl) rfl rfl rfl ?_
      refine ov (v := .string ys[k].name) (xload1 Try.isAgg9 rfl (O3.cells) rfl) rfl rfl rfl ?_
      refine oc (xcallv rfl hg rfl) rfl rfl rfl (hf _ E ys[k].name) ?_
      rintro _ w4 ⟨rfl, e4⟩
      have z4 := e4.size
      have E := E.trans e4
      replace G_5 := G_5.ext e4
      replace O3 := O3.ext e4
      refine obs (fun c22 => ?_) (fun c22 => ?_)
      ·
        refine ov (xpick_t rfl rfl) rfl rfl rfl ?_
        refine ov (xassign rfl) rfl rfl rfl ?_
        refine ops_nil ?_
        refine run_cond_t rfl ?_
        refine run_region ?_
        refine ov (xmove rfl) rfl rfl rfl ?_
        refine ov (xfieldAddr fo77f3 rfl) rfl rfl rfl ?_
        refine ov (v := .slice ys[k].p ys[k].n ys[k].c) (xload1 Try.isAgg73 rfl (O3.cells) rfl) rfl rfl rfl ?_
        refine ov (xmove rfl) rfl rfl rfl ?_
        refine oc (xcall Try.call60 rfl) rfl rfl rfl (placesF_ok _ _ _ zs[k].inner _ ((hin.ext E)) hzk.2.1 g caps acc hg (fun w2 x2 => hf w2 (E.trans x2))) ?_
        rintro _ w5 ⟨e5, q28, m28, d28, rfl, hq28, G28⟩
        have z5 := e5.size
        have E := E.trans e5
        replace G_5 := G_5.ext e5
        replace O3 := O3.ext e5
        have lG28 := G28.len
        refine oapp2 (bytes := 16) (nm := (m_5 + m28)) G_5 rfl rfl elem9 (G28.sl) (ow_nil G28) (by intro y hy; rfl) (by intro y hy u hu; simp only [strc, List.mem_singleton] at hu; subst hu; rfl) (by omega) (by omega) (by omega) (by omega) rfl rfl ?_
        intro p6 c6_ w6 m6 k6 hat29 G6
        have hh6 := hend_le q_5
        have hz6 := m6.size
        have E := m6.toExt E (by omega)
        replace G28 := (by first | exact G28.off m6 (by omega) | exact G28.off k6 (by omega))
        try replace O3 := m6.own O3 (by omega)
        refine ov (xassign rfl) rfl rfl rfl ?_
        refine ops_nil ?_
        refine run_inBlock ?_
        refine run_inBlock ?_
        refine run_region ?_
        refine ov (xadd rfl rfl (by unfold I64; omega)) rfl rfl rfl ?_
        refine ov (xmove rfl) rfl rfl rfl ?_
        refine ops_nil ?_
        refine run_sub ?_ (hback3 (k + 1, p6, (m_5 + m28), c6_, (ys_5 ++ zs[k].inner.flatMap nameP), w6) (⟨E, G6.wide (by omega) (by omega), by omega, by omega, by omega, by rw [flat_step hk2, ← hy, stepP, if_pos (by rw [← hi3]; exact c17), if_pos (by rw [← hi2]; exact c22)], ne_of_at hat29 hq5 (by omega), by omega⟩) (by first | omega | (dsimp only; omega)))
        exact ⟨rfl, rfl, rfl, rfl, rfl, trivial⟩
      ·
        refine ov (xpick_t rfl rfl) rfl rfl rfl ?_
        refine ov (xassign rfl) rfl rfl rfl ?_
        refine ops_nil ?_
        refine run_cond_f rfl ?_
        refine run_seq ?_
        refine run_region ?_
        refine ov (xfieldAddr fo77f2 rfl) rfl rfl rfl ?_
        refine ov (v := .bool ys[k].sec) (xload1 Try.isAgg4 rfl (O3.cells) rfl) rfl rfl rfl ?_
        refine obs (fun c32 => ?_) (fun c32 => ?_)
        ·
          refine ov (xnot rfl) rfl rfl rfl ?_
          refine ov (xmove rfl) rfl rfl rfl ?_
          refine og rfl rfl rfl ?_
          refine og rfl rfl rfl ?_
          refine og rfl rfl rfl ?_
          refine ov (xpick_f rfl rfl) rfl rfl rfl ?_
          refine ov (xassign rfl) rfl rfl rfl ?_
          refine ops_nil ?_
          refine run_cond_f rfl ?_
          refine run_skip ?_
          refine run_inBlock ?_
          refine run_inBlock ?_
          refine run_region ?_
          refine ov (xadd rfl rfl (by unfold I64; omega)) rfl rfl rfl ?_
          refine ov (xmove rfl) rfl rfl rfl ?_
          refine ops_nil ?_
          refine run_sub ?_ (hback3 (k + 1, q_5, m_5, c_5, ys_5, w4) (⟨E, G_5.wide (by omega) (by omega), by omega, by omega, by omega, by rw [flat_step hk2, ← hy, stepP, if_pos (by rw [← hi3]; exact c17), if_neg (by rw [← hi2]; simp [c22]), List.append_nil], hq5, by omega⟩) (by first | omega | (dsimp only; omega)))
          exact ⟨rfl, rfl, rfl, rfl, rfl, trivial⟩
        · exfalso; rw [c17] at c32; cases c32
    ·
      refine ov (xmove rfl) rfl rfl rfl ?_
      refine og rfl rfl rfl ?_
      refine og rfl rfl rfl ?_
      refine og rfl rfl rfl ?_
      refine og rfl rfl rfl ?_
      refine ov (xpick_f rfl rfl) rfl rfl rfl ?_
      refine ov (xassign rfl) rfl rfl rfl ?_
      refine ops_nil ?_
      refine run_cond_f rfl ?_
      refine run_seq ?_
      refine run_region ?_
      refine ov (xfieldAddr fo77f2 rfl) rfl rfl rfl ?_
      refine ov (v := .bool ys[k].sec) (xload1 Try.isAgg4 rfl (O3.cells) rfl) rfl rfl rfl ?_
      refine obs (fun c32 => ?_) (fun c32 => ?_)
      · exfalso; rw [c17] at c32; cases c32
      ·
        refine ov (xnot rfl) rfl rfl rfl ?_
        refine ov (xmove rfl) rfl rfl rfl ?_
        refine ov (xfieldAddr fo77f1 rfl) rfl rfl rfl ?_
        refine ov (v := .string ys[k].name) (xload1 Try.isAgg9 rfl (O3.cells) rfl) rfl rfl rfl ?_
        refine ov (xsneq rfl rfl _ rfl) rfl rfl rfl ?_
        refine ods (fun c37 => ?_) (fun c37 => ?_)
        ·
          refine ov (xpick_t rfl rfl) rfl rfl rfl ?_
          refine ov (xassign rfl) rfl rfl rfl ?_
          refine ops_nil ?_
          refine run_cond_t rfl ?_
          refine run_region ?_
          refine ov (xmove rfl) rfl rfl rfl ?_
          refine ov (xfieldAddr fo77f1 rfl) rfl rfl rfl ?_
          refine ov (v := .string ys[k].name) (xload1 Try.isAgg9 rfl (O3.cells) rfl) rfl rfl rfl ?_
          refine obuild (cs := [.string ys[k].name]) (sz := 1) Try.underlying48 inf9 rfl rfl (by decide) rfl rfl (by simp [Value.cells]) rfl rfl rfl ?_
          intro b4 w4 e4 hb4 hz4 O4
          have E := E.trans e4
          replace G_5 := G_5.ext e4
          replace O3 := O3.ext e4
          refine oapp2 (bytes := 16) (nm := (m_5 + 1)) G_5 rfl rfl elem9 (Own.sl1 (y := ys[k].name) O4) (by intro h; cases h) (by intro y hy; rfl) (by intro y hy u hu; rw [List.mem_singleton] at hy; subst hy; revert u; simp [Value.oneCell', strc]) (by omega) (by omega) (by omega) (by omega) rfl rfl ?_
          intro p5 c5_ w5 m5 k5 hat43 G5
          have hh5 := hend_le q_5
          have hz5 := m5.size
          have E := m5.toExt E (by omega)
          try replace O3 := m5.own O3 (by omega)
          try replace O4 := m5.own O4 (by omega)
          refine ov (xassign rfl) rfl rfl rfl ?_
          refine ops_nil ?_
          refine run_inBlock ?_
          refine run_inBlock ?_
          refine run_region ?_
          refine ov (xadd rfl rfl (by unfold I64; omega)) rfl rfl rfl ?_
          refine ov (xmove rfl) rfl rfl rfl ?_
          refine ops_nil ?_
          refine run_sub ?_ (hback3 (k + 1, p5, (m_5 + 1), c5_, (ys_5 ++ [ys[k].name]), w5) (⟨E, G5.wide (by omega) (by omega), by omega, by omega, by omega, by rw [flat_step hk2, ← hy, stepP, if_neg (by rw [← hi3]; simp [c17]), nameP, ← hi2, if_neg c37], ne_of_at hat43 hq5 (by omega), by omega⟩) (by first | omega | (dsimp only; omega)))
          exact ⟨rfl, rfl, rfl, rfl, rfl, trivial⟩
        ·
          refine ov (xpick_t rfl rfl) rfl rfl rfl ?_
          refine ov (xassign rfl) rfl rfl rfl ?_
          refine ops_nil ?_
          refine run_cond_f rfl ?_
          refine run_skip ?_
          refine run_inBlock ?_
          refine run_inBlock ?_
          refine run_region ?_
          refine ov (xadd rfl rfl (by unfold I64; omega)) rfl rfl rfl ?_
          refine ov (xmove rfl) rfl rfl rfl ?_
          refine ops_nil ?_
          refine run_sub ?_ (hback3 (k + 1, q_5, m_5, c_5, ys_5, w3) (⟨E, G_5.wide (by omega) (by omega), by omega, by omega, by omega, by rw [flat_step hk2, ← hy, stepP, if_neg (by rw [← hi3]; simp [c17]), nameP, ← hi2, if_pos (Classical.not_not.1 c37), List.append_nil], hq5, by omega⟩) (by first | omega | (dsimp only; omega)))
          exact ⟨rfl, rfl, rfl, rfl, rfl, trivial⟩
  ·
    refine ops_nil ?_
    refine run_seq ?_
    refine run_cond_f rfl ?_
    refine run_exit rfl ?_
    refine run_seq ?_
    refine run_region ?_
    refine ov (xmove rfl) rfl rfl rfl ?_
    refine ov (xassign rfl) rfl rfl rfl ?_
    refine ops_nil ?_
    refine run_ret Try.func60 (res1 rfl rfl) ?_
    obtain rfl : k = n := by omega
    have he : ys_5 = zs.flatMap (stepP acc) := by rw [hy, List.take_of_length_le (by omega)]
    exact ⟨_, rfl, E, _, _, _, rfl, hq5, by rw [← he]; exact G_5.wide (by omega) (by omega)⟩

set_option maxHeartbeats 400000 in
theorem IsTemplate_ok (s : ByteArray) (w : World) (hs : s.size ≤ 1048576) (hm : Hm w) : Ret Try.prog 29 [.string s] w (Pv w (.bool (isTpl s))) := by
  refine ret_of_run (N := 11) Try.func29 rfl rfl rfl ?_
  have E : Ext w w := Ext.refl w
  refine run_seq ?_
  refine run_region ?_
  refine ov (xassign rfl) rfl rfl rfl ?_
  refine ops_nil ?_
  refine run_seq ?_
  refine run_region ?_
  refine ov (xmove rfl) rfl rfl rfl ?_
  refine oc (xcall Try.call58 rfl) rfl rfl rfl (readTemplate_ok (s) _ (by omega) (hm.ext E)) ?_
  rintro _ w1 ⟨e1, q7, m7, d7, ys7, rfl, G7, I7⟩
  have z1 := e1.size
  have E := E.trans e1
  have lG7 := G7.len
  have lI7 := I7.len
  have hTB := rtI_TB s
  have hTB1 := hTB.1
  refine ov (xmove rfl) rfl rfl rfl ?_
  refine ov (xextract rfl rfl) rfl rfl rfl ?_
  refine ov (xextract rfl rfl) rfl rfl rfl ?_
  refine ov (xassign rfl) rfl rfl rfl ?_
  refine ov (xassign rfl) rfl rfl rfl ?_
  refine ops_nil ?_
  refine run_seq ?_
  refine run_region ?_
  refine ov (xmove rfl) rfl rfl rfl ?_
  refine ov (xassign rfl) rfl rfl rfl ?_
  refine ops_nil ?_
  refine run_ret Try.func29 (res1 rfl rfl) ?_
  exact ⟨_, rfl, rfl, E⟩

set_option maxHeartbeats 400000 in
theorem PlacesOf1_ok (x : ByteArray) (w : World) : Ret Try.prog 61 [.string x] w (Pv w (.bool true)) := by
  refine ret_of_run (N := 3) Try.func61 rfl rfl rfl ?_
  have E : Ext w w := Ext.refl w
  refine run_seq ?_
  refine run_region ?_
  refine ov (xassign rfl) rfl rfl rfl ?_
  refine ops_nil ?_
  refine run_seq ?_
  refine run_region ?_
  refine ov (xassign rfl) rfl rfl rfl ?_
  refine ops_nil ?_
  refine run_ret Try.func61 (res1 rfl rfl) ?_
  exact ⟨_, rfl, rfl, E⟩

theorem rtI_some {s : ByteArray} (h : (rtI s).isSome = true) : rtI s = some ((rtI s).getD []) := by
  cases h2 : rtI s with
  | none => rw [h2] at h; cases h
  | some l => rfl
theorem names_yes {f : TP → List ByteArray} {s : ByteArray} (h : (rtI s).isSome = true) : namesOf f s = (srtS (((rtI s).getD []).flatMap f), 0) := by
  rw [namesOf, rtI_some h]; rfl
theorem stepP_len (acc : ByteArray → Bool) {l : List TP} (h : TB l) : (l.flatMap (stepP acc)).length ≤ 2882400 := by
  have := flat_len (B := 1201) (l := l) (f := stepP acc) fun z hz => by
    have hk := (h.2 z hz).2.1
    unfold stepP
    split
    · split
      · have := flat_len (B := 1) (l := z.inner) (f := nameP) fun x _ => nameP_len x
        omega
      · exact Nat.zero_le _
    · exact Nat.le_trans (nameP_len _) (by omega)
  have h2 : l.length * 1201 ≤ 2400 * 1201 := Nat.mul_le_mul_right _ h.1
  omega

set_option maxHeartbeats 2000000 in
theorem SectionsOf_ok (s : ByteArray) (w : World) (hs : s.size ≤ 1048576) (hm : Hm w) : Ret Try.prog 31 [.string s] w (fun v w' => Ext w w' ∧ ∃ q m d, v = .tuple #[.slice q m d, .int .i64 (sectionsOf s).2] ∧ Ow strc 1 9 w' w.heap.size w'.heap.size q m d (sectionsOf s).1) := by
  refine ret_of_run (N := 33) Try.func31 rfl rfl rfl ?_
  have E : Ext w w := Ext.refl w
  refine run_seq ?_
  refine run_region ?_
  refine ov (xassign rfl) rfl rfl rfl ?_
  refine ov (xassign rfl) rfl rfl rfl ?_
  refine ops_nil ?_
  refine run_seq ?_
  refine run_region ?_
  refine ov (xmove rfl) rfl rfl rfl ?_
  refine oc (xcall Try.call58 rfl) rfl rfl rfl (readTemplate_ok (s) _ (by omega) (hm.ext E)) ?_
  rintro _ w1 ⟨e1, q11, m11, d11, ys11, rfl, G11, I11⟩
  have z1 := e1.size
  have E := E.trans e1
  have lG11 := G11.len
  have lI11 := I11.len
  have hTB := rtI_TB s
  have hTB1 := hTB.1
  refine ov (xmove rfl) rfl rfl rfl ?_
  refine ov (xextract rfl rfl) rfl rfl rfl ?_
  refine ov (xextract rfl rfl) rfl rfl rfl ?_
  refine obs (fun c13 => ?_) (fun c13 => ?_)
  ·
    refine ov (xassign rfl) rfl rfl rfl ?_
    refine ov (xassign rfl) rfl rfl rfl ?_
    refine ops_nil ?_
    refine run_seq ?_
    refine run_seq ?_
    refine run_region ?_
    refine ov (xmove rfl) rfl rfl rfl ?_
    refine ov (xnot rfl) rfl rfl rfl ?_
    refine ops_nil ?_
    refine run_cond_f rfl ?_
    refine run_skip ?_
    refine run_seq ?_
    refine run_region ?_
    refine obuild (cs := []) (sz := 1) Try.underlying48 inf9 rfl rfl (by decide) rfl rfl (by simp [Value.cells]) rfl rfl rfl ?_
    intro b2 w2 e2 hb2 hz2 O2
    have E := E.trans e2
    replace G11 := G11.ext e2
    replace I11 := I11.ext e2
    have G2 : Ow strc 1 9 w2 b2 (b2 + 1) (some ⟨b2, 0, none⟩) 0 0 ([] : List ByteArray) := Own.ow (by simpa [strc] using O2) rfl (by omega) (Nat.le_refl _) (by omega) (by intro x hx; rfl)
    refine ov (xassign rfl) rfl rfl rfl ?_
    refine ops_nil ?_
    refine run_seq ?_
    refine run_seq ?_
    refine run_region ?_
    refine ov (xmove rfl) rfl rfl rfl ?_
    refine ov (xlen Try.underlying73 rfl) rfl rfl rfl ?_
    refine ov (xmove rfl) rfl rfl rfl ?_
    refine ops_nil ?_
    refine run_block ?_
    refine run_loop (ι := Nat × Option Addr × Nat × Nat × List ByteArray × World) (fun x_ => match x_ with | (k, q_6, m_6, c_6, ys_6, wr) => (Ext w wr) ∧ (Ins 77 wr w.heap.size w1.heap.size ys11 ((rtI s).getD [])) ∧ (Ow Pt.cells 4 77 wr w.heap.size w1.heap.size q11 m11 d11 ys11) ∧ (Ow strc 1 9 wr b2 wr.heap.size q_6 m_6 c_6 ys_6) ∧ (b2 ≤ wr.heap.size) ∧ (w2.heap.size ≤ wr.heap.size) ∧ (k ≤ m11) ∧ (ys_6 = (((rtI s).getD []).take k).flatMap sectN) ∧ (q_6 ≠ none) ∧ (m_6 ≤ k)) (fun x_ => match x_ with | (k, q_6, m_6, c_6, ys_6, wr) => [(6, .slice q_6 m_6 c_6), (17, .slice q11 m11 d11), (18, .int .i64 (m11 : Int)), (19, .int .i64 (k : Int))]) (fun x_ => match x_ with | (k, q_6, m_6, c_6, ys_6, wr) => wr) (fun x_ => match x_ with | (k, q_6, m_6, c_6, ys_6, wr) => m11 - k) ?_ (0, (some ⟨b2, 0, none⟩), 0, 0, [], w2) (⟨E, I11, G11, G2.wide (by omega) (by omega), by omega, Nat.le_refl _, by omega, rfl, (by intro h; cases h), by omega⟩) ⟨rfl, rfl, rfl, rfl, trivial⟩ rfl
    intro i_ hI_ hback6
    obtain ⟨k, q_6, m_6, c_6, ys_6, wr⟩ := i_
    obtain ⟨E, I11, G11, G_6, lo_6, lz_wr, hk, hy, hq6, hm6⟩ := hI_
    try dsimp only
    have zr := E.size
    have lg_6 := G_6.len
    refine run_seq ?_
    refine run_region ?_
    refine ov (xlss rfl rfl _ rfl) rfl rfl rfl ?_
    refine ods (fun c20 => ?_) (fun c20 => ?_)
    ·
      obtain ⟨hk2, hi1, hi2, hi3, hin⟩ := I11.sec (k := k) (by omega)
      refine ops_nil ?_
      refine run_seq ?_
      refine run_cond_t rfl ?_
      refine run_skip ?_
      refine run_seq ?_
      refine run_block ?_
      refine run_seq ?_
      refine run_region ?_
      have h21 := (G11.sl).at (i := k) (by omega)
      refine ov (xindexN (i := k) Try.underlying73 Try.sizeOf77 rfl rfl rfl ((G11.sl).p (i := k) (by omega)) (by have := (G11.sl).len; omega)) rfl rfl rfl ?_
      refine ov (v := .agg #[.string ys11[k].text, .string ys11[k].name, .bool ys11[k].sec, .slice ys11[k].p ys11[k].n ys11[k].c]) (xloadN Try.isAgg77 Try.sizeOf77 rfl (h21) rfl) rfl rfl rfl ?_
      refine oalloc Try.zeroValue77 rfl rfl ?_
      intro b3 w3 e3 hb3 hz3 O3
      have E := E.trans e3
      replace G_6 := G_6.ext e3
      replace I11 := I11.ext e3
      replace G11 := G11.ext e3
      replace O3 : Own w3 b3 [.string ⟨#[]⟩, .string ⟨#[]⟩, .bool false, .slice none 0 0] 77 := O3
      refine ostoreN (vs := _) Try.sizeOf77 rfl rfl O3 rfl (by simp) (by simp [Value.oneCell']) rfl ?_
      intro w4 on4 O4
      have hz4 := on4.size
      have E := on4.ext E (by omega)
      replace G_6 := G_6.only on4 (by omega)
      replace I11 := I11.only on4 (by omega)
      replace G11 := G11.only on4 (by omega)
      replace O4 : Own w4 b3 [.string ys11[k].text, .string ys11[k].name, .bool ys11[k].sec, .slice ys11[k].p ys11[k].n ys11[k].c] 77 := O4
      refine ops_nil ?_
      refine run_seq ?_
      refine run_region ?_
      refine ov (xfieldAddr fo77f2 rfl) rfl rfl rfl ?_
      refine ov (v := .bool ys11[k].sec) (xload1 Try.isAgg4 rfl (O4.cells) rfl) rfl rfl rfl ?_
      refine obs (fun c24 => ?_) (fun c24 => ?_)
      ·
        refine ops_nil ?_
        refine run_cond_t rfl ?_
        refine run_region ?_
        refine ov (xmove rfl) rfl rfl rfl ?_
        refine ov (xfieldAddr fo77f1 rfl) rfl rfl rfl ?_
        refine ov (v := .string ys11[k].name) (xload1 Try.isAgg9 rfl (O4.cells) rfl) rfl rfl rfl ?_
        refine obuild (cs := [.string ys11[k].name]) (sz := 1) Try.underlying48 inf9 rfl rfl (by decide) rfl rfl (by simp [Value.cells]) rfl rfl rfl ?_
        intro b5 w5 e5 hb5 hz5 O5
        have E := E.trans e5
        replace G_6 := G_6.ext e5
        replace I11 := I11.ext e5
        replace G11 := G11.ext e5
        replace O4 := O4.ext e5
        refine oapp2 (bytes := 16) (nm := (m_6 + 1)) G_6 rfl rfl elem9 (Own.sl1 (y := ys11[k].name) O5) (by intro h; cases h) (by intro y hy; rfl) (by intro y hy u hu; rw [List.mem_singleton] at hy; subst hy; revert u; simp [Value.oneCell', strc]) (by omega) (by omega) (by omega) (by omega) rfl rfl ?_
        intro p6 c6_ w6 m6 k6 hat29 G6
        have hh6 := hend_le q_6
        have hz6 := m6.size
        have E := m6.toExt E (by omega)
        replace I11 := (by first | exact I11.off m6 (by omega) | exact I11.off k6 (by omega))
        replace G11 := (by first | exact G11.off m6 (by omega) | exact G11.off k6 (by omega))
        try replace O4 := m6.own O4 (by omega)
        try replace O5 := m6.own O5 (by omega)
        refine ov (xassign rfl) rfl rfl rfl ?_
        refine ops_nil ?_
        refine run_inBlock ?_
        refine run_region ?_
        refine ov (xadd rfl rfl (by unfold I64; omega)) rfl rfl rfl ?_
        refine ov (xmove rfl) rfl rfl rfl ?_
        refine ops_nil ?_
        refine run_sub ?_ (hback6 (k + 1, p6, (m_6 + 1), c6_, (ys_6 ++ [ys11[k].name]), w6) (⟨E, I11, G11, G6.wide (by omega) (by omega), by omega, by omega, by omega, by rw [flat_step hk2, ← hy, sectN, if_pos (by rw [← hi3]; exact c24), hi2], ne_of_at hat29 hq6 (by omega), by omega⟩) (by first | omega | (dsimp only; omega)))
        exact ⟨rfl, rfl, rfl, rfl, trivial⟩
      ·
        refine ops_nil ?_
        refine run_cond_f rfl ?_
        refine run_skip ?_
        refine run_inBlock ?_
        refine run_region ?_
        refine ov (xadd rfl rfl (by unfold I64; omega)) rfl rfl rfl ?_
        refine ov (xmove rfl) rfl rfl rfl ?_
        refine ops_nil ?_
        refine run_sub ?_ (hback6 (k + 1, q_6, m_6, c_6, ys_6, w4) (⟨E, I11, G11, G_6.wide (by omega) (by omega), by omega, by omega, by omega, by rw [flat_step hk2, ← hy, sectN, if_neg (by rw [← hi3]; simp [c24]), List.append_nil], hq6, by omega⟩) (by first | omega | (dsimp only; omega)))
        exact ⟨rfl, rfl, rfl, rfl, trivial⟩
    ·
      refine ops_nil ?_
      refine run_seq ?_
      refine run_cond_f rfl ?_
      refine run_exit rfl ?_
      refine run_seq ?_
      refine run_region ?_
      refine ov (xmove rfl) rfl rfl rfl ?_
      refine oc (xcall Try.call59 rfl) rfl rfl rfl (sortedNames_ok _ _ _ _ _ _ _ G_6 hq6 (by omega)) ?_
      rintro _ w3 ⟨mz, rfl, hmz, m3, g3⟩
      have z3 := m3.size
      have E := m3.toExt E (by omega)
      replace I11 := I11.off m3 (by omega)
      replace G11 := G11.off m3 (by omega)
      replace G_6 := g3
      refine ov (xassign rfl) rfl rfl rfl ?_
      refine ov (xassign rfl) rfl rfl rfl ?_
      refine ops_nil ?_
      refine run_ret Try.func31 (res2 rfl rfl rfl) ?_
      obtain rfl : k = m11 := by omega
      have he2 : ys_6 = ((rtI s).getD []).flatMap sectN := by rw [hy, List.take_of_length_le (by omega)]
      have he : sectionsOf s = (srtS ys_6, 0) := by rw [he2]; exact names_yes c13
      exact ⟨_, rfl, E, _, _, _, by rw [he], by rw [he]; exact G_6.wide (by omega) (by omega)⟩
  ·
    refine ov (xassign rfl) rfl rfl rfl ?_
    refine ov (xassign rfl) rfl rfl rfl ?_
    refine ops_nil ?_
    refine run_seq ?_
    refine run_seq ?_
    refine run_region ?_
    refine ov (xmove rfl) rfl rfl rfl ?_
    refine ov (xnot rfl) rfl rfl rfl ?_
    refine ops_nil ?_
    refine run_cond_t rfl ?_
    refine run_seq ?_
    refine run_region ?_
    refine ov (xassign rfl) rfl rfl rfl ?_
    refine ov (xassign rfl) rfl rfl rfl ?_
    refine ops_nil ?_
    refine run_ret Try.func31 (res2 rfl rfl rfl) ?_
    have he : sectionsOf s = ([], 6) := names_no c13
    exact ⟨_, rfl, E, none, 0, 0, by rw [he], by rw [he]; exact Ow.none _ _ _ _ _ _⟩

set_option maxHeartbeats 2000000 in
theorem PlacesOf_ok (s : ByteArray) (w : World) (hs : s.size ≤ 1048576) (hm : Hm w) : Ret Try.prog 36 [.string s] w (fun v w' => Ext w w' ∧ ∃ q m d, v = .tuple #[.slice q m d, .int .i64 (placesOf s).2] ∧ Ow strc 1 9 w' w.heap.size w'.heap.size q m d (placesOf s).1) := by
  refine ret_of_run (N := 16) Try.func36 rfl rfl rfl ?_
  have E : Ext w w := Ext.refl w
  refine run_seq ?_
  refine run_region ?_
  refine ov (xassign rfl) rfl rfl rfl ?_
  refine ov (xassign rfl) rfl rfl rfl ?_
  refine ops_nil ?_
  refine run_seq ?_
  refine run_region ?_
  refine ov (xmove rfl) rfl rfl rfl ?_
  refine oc (xcall Try.call58 rfl) rfl rfl rfl (readTemplate_ok (s) _ (by omega) (hm.ext E)) ?_
  rintro _ w1 ⟨e1, q8, m8, d8, ys8, rfl, G8, I8⟩
  have z1 := e1.size
  have E := E.trans e1
  have lG8 := G8.len
  have lI8 := I8.len
  have hTB := rtI_TB s
  have hTB1 := hTB.1
  refine ov (xmove rfl) rfl rfl rfl ?_
  refine ov (xextract rfl rfl) rfl rfl rfl ?_
  refine ov (xextract rfl rfl) rfl rfl rfl ?_
  refine obs (fun c10 => ?_) (fun c10 => ?_)
  ·
    refine ov (xassign rfl) rfl rfl rfl ?_
    refine ov (xassign rfl) rfl rfl rfl ?_
    refine ops_nil ?_
    refine run_seq ?_
    refine run_seq ?_
    refine run_region ?_
    refine ov (xmove rfl) rfl rfl rfl ?_
    refine ov (xnot rfl) rfl rfl rfl ?_
    refine ops_nil ?_
    refine run_cond_f rfl ?_
    refine run_skip ?_
    refine run_seq ?_
    refine run_region ?_
    refine ov (xmove rfl) rfl rfl rfl ?_
    refine oc (xcall Try.call60 rfl) rfl rfl rfl (places_ok _ _ _ ys8 _ _ _ _ G8 I8 hTB 61 [] (fun _ => true) Try.call61 (fun w2 _ x => PlacesOf1_ok x w2)) ?_
    rintro _ w2 ⟨e2, q14, m14, d14, rfl, hq14, G14⟩
    have z2 := e2.size
    have E := E.trans e2
    replace G8 := G8.ext e2
    replace I8 := I8.ext e2
    have lG14 := G14.len
    have lst := stepP_len (fun _ => true) hTB
    refine oc (xcall Try.call59 rfl) rfl rfl rfl (sortedNames_ok _ _ _ _ _ _ _ G14 hq14 (by omega)) ?_
    rintro _ w3 ⟨mz, rfl, hmz, m3, g3⟩
    have z3 := m3.size
    have E := m3.toExt E (by omega)
    replace G8 := G8.off m3 (by omega)
    replace I8 := I8.off m3 (by omega)
    replace G14 := g3
    refine ov (xassign rfl) rfl rfl rfl ?_
    refine ov (xassign rfl) rfl rfl rfl ?_
    refine ops_nil ?_
    refine run_ret Try.func36 (res2 rfl rfl rfl) ?_
    have he : placesOf s = (srtS (((rtI s).getD []).flatMap (stepP fun _ => true)), 0) := names_yes c10
    exact ⟨_, rfl, E, _, _, _, by rw [he], by rw [he]; exact G14.wide (by omega) (by omega)⟩
  ·
    refine ov (xassign rfl) rfl rfl rfl ?_
    refine ov (xassign rfl) rfl rfl rfl ?_
    refine ops_nil ?_
    refine run_seq ?_
    refine run_seq ?_
    refine run_region ?_
    refine ov (xmove rfl) rfl rfl rfl ?_
    refine ov (xnot rfl) rfl rfl rfl ?_
    refine ops_nil ?_
    refine run_cond_t rfl ?_
    refine run_seq ?_
    refine run_region ?_
    refine ov (xassign rfl) rfl rfl rfl ?_
    refine ov (xassign rfl) rfl rfl rfl ?_
    refine ops_nil ?_
    refine run_ret Try.func36 (res2 rfl rfl rfl) ?_
    have he : placesOf s = ([], 6) := names_no c10
    exact ⟨_, rfl, E, none, 0, 0, by rw [he], by rw [he]; exact Ow.none _ _ _ _ _ _⟩
end Go.Proofs.Ytgbedilaiefcbaa
