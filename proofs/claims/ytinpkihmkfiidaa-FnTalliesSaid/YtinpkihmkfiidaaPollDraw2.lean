/-
  Draws of polls, of jurors and of questions. No condition beyond those written in each theorem.
-/
import Derived.Test.YtinpkihmkfiidaaPollDraw
namespace Go.Proofs.Ytinpkihmkfiidaa
open Go.RowKit
set_option linter.unusedVariables false
set_option linter.unusedSimpArgs false
set_option linter.unusedSectionVars false
set_option maxRecDepth 4000

set_option maxHeartbeats 1000000 in
theorem DrawHungOn_ok (p : Option Addr) (n c : Nat) (bs : List Int) (w : World) (H : Sl u8c 1 w p n c bs) (hbs : ∀ x ∈ bs, 0 ≤ x ∧ x ≤ 255) : Ret Try.prog 78 [.slice p n c] w (fun v w' => Ext w w' ∧ ∃ (xs : List Question) (q : Option Addr) (m d : Nat) (vs : List (List Int)) (nd : Int) (p2 : Option Addr) (n2 c2 : Nat), v = .tuple #[.slice q m d, .agg #[.int .i64 nd, .slice p2 n2 c2]] ∧ (∀ x ∈ xs, x.Label.size ≤ 9223372036854775807) ∧ m ≤ 11 ∧ SlF Question.cells 3 w' w.heap.size w'.heap.size q m d xs ∧ OnInt64SS w' w.heap.size w'.heap.size p2 n2 c2 vs ∧ n2 ≤ 13) := by
  refine ret_of_run (N := 9) Try.func78 rfl rfl rfl ?_
  have hfar := H.blk (fun x => by simp [u8c])
  have E : Ext w w := Ext.refl w
  refine run_seq ?_
  refine run_region ?_
  refine ov (xassign rfl) rfl rfl rfl ?_
  refine oalloc Try.zeroValue41 rfl rfl ?_
  intro b1 w1 e1 hb1 hz1 O1
  have E := E.trans e1
  replace O1 : Own w1 b1 [.int .i64 0, .slice none 0 0] 41 := O1
  refine ops_nil ?_
  refine run_seq ?_
  refine run_region ?_
  refine ov (xmove rfl) rfl rfl rfl ?_
  refine oc (xcall Try.call125 rfl) rfl rfl rfl (l01From_ok _ _ _ _ _ (H.ext E) (by assumption) w.heap.size hfar (by omega)) ?_
  rintro _ w2 ⟨e2, b5_, rfl, hcb5, S⟩
  have z2 := e2.size
  have E := E.trans e2
  replace O1 := O1.ext e2
  have hcc5 := S.cb
  have hbl5 := S.lt
  refine oc (xcall Try.call127 rfl) rfl rfl rfl (l27Draw_ok b5_ w.heap.size _ S) ?_
  rintro _ w3 ⟨r6_0, r6_1, r6_2, r6_3, r6_4, r6_5, r6_6, r6_7, r6_8, rfl, h6_0, h6_1, h6_2, h6_3, h6_4, m3, S3⟩
  have z3 := m3.size
  have E := m3.toExt E (by omega)
  replace O1 := m3.own O1 (by omega)
  replace S := S3
  refine ov (xextract rfl rfl) rfl rfl rfl ?_
  refine ov (xextract rfl rfl) rfl rfl rfl ?_
  refine ov (xassign rfl) rfl rfl rfl ?_
  refine ostoreN (vs := _) Try.sizeOf41 rfl rfl O1 rfl (by simp) (by simp [Value.oneCell']) rfl ?_
  intro w4 on4 O4
  have hz4 := on4.size
  have E := on4.ext E (by omega)
  replace S := S.off (Mk.ofOnly on4 (Nat.le_refl _) (Nat.lt_succ_self _)) (by omega)
  replace h6_2 := h6_2.only on4 (by omega)
  replace h6_3 := h6_3.only on4 (by omega)
  replace O4 : Own w4 b1 [.int .i64 r6_5, .slice r6_6 r6_7 r6_8] 41 := O4
  refine ops_nil ?_
  refine run_ret Try.func78 (rescT rfl rfl rfl (run_loadVar_cells Try.isAgg41 Try.sizeOf41 O4.cells rfl)) ?_
  exact ⟨_, rfl, E, _, _, _, _, _, _, _, _, _, rfl, h6_0, by omega, h6_2.wide (by omega) (by omega), h6_3.wide (by omega) (by omega), by omega⟩

set_option maxHeartbeats 1000000 in
theorem DrawTallyOf_ok (p : Option Addr) (n c : Nat) (bs : List Int) (w : World) (H : Sl u8c 1 w p n c bs) (hbs : ∀ x ∈ bs, 0 ≤ x ∧ x ≤ 255) : Ret Try.prog 72 [.slice p n c] w (fun v w' => Ext w w' ∧ ∃ (xs : List Question) (q : Option Addr) (m d : Nat) (vs : List (List Int)) (nd : Int) (p2 : Option Addr) (n2 c2 : Nat) (r : Int), v = .tuple #[.slice q m d, .agg #[.int .i64 nd, .slice p2 n2 c2], .int .i64 r] ∧ (∀ x ∈ xs, x.Label.size ≤ 9223372036854775807) ∧ m ≤ 11 ∧ SlF Question.cells 3 w' w.heap.size w'.heap.size q m d xs ∧ OnInt64SS w' w.heap.size w'.heap.size p2 n2 c2 vs ∧ n2 ≤ 13 ∧ (-100 ≤ r ∧ r ≤ 100)) := by
  refine ret_of_run (N := 26) Try.func72 rfl rfl rfl ?_
  have hfar := H.blk (fun x => by simp [u8c])
  have E : Ext w w := Ext.refl w
  refine run_seq ?_
  refine run_region ?_
  refine ov (xassign rfl) rfl rfl rfl ?_
  refine oalloc Try.zeroValue41 rfl rfl ?_
  intro b1 w1 e1 hb1 hz1 O1
  have E := E.trans e1
  replace O1 : Own w1 b1 [.int .i64 0, .slice none 0 0] 41 := O1
  refine ov (xassign rfl) rfl rfl rfl ?_
  refine ops_nil ?_
  refine run_seq ?_
  refine run_region ?_
  refine ov (xmove rfl) rfl rfl rfl ?_
  refine oc (xcall Try.call125 rfl) rfl rfl rfl (l01From_ok _ _ _ _ _ (H.ext E) (by assumption) w.heap.size hfar (by omega)) ?_
  rintro _ w2 ⟨e2, b9_, rfl, hcb9, S⟩
  have z2 := e2.size
  have E := E.trans e2
  replace O1 := O1.ext e2
  have hcc9 := S.cb
  have hbl9 := S.lt
  refine ov (xassign rfl) rfl rfl rfl ?_
  refine ops_nil ?_
  refine run_seq ?_
  refine run_region ?_
  refine ov (xmove rfl) rfl rfl rfl ?_
  refine oc (xcall Try.call127 rfl) rfl rfl rfl (l27Draw_ok b9_ w.heap.size _ S) ?_
  rintro _ w3 ⟨r12_0, r12_1, r12_2, r12_3, r12_4, r12_5, r12_6, r12_7, r12_8, rfl, h12_0, h12_1, h12_2, h12_3, h12_4, m3, S3⟩
  have z3 := m3.size
  have E := m3.toExt E (by omega)
  replace O1 := m3.own O1 (by omega)
  replace S := S3
  refine ov (xmove rfl) rfl rfl rfl ?_
  refine ov (xextract rfl rfl) rfl rfl rfl ?_
  refine ov (xextract rfl rfl) rfl rfl rfl ?_
  refine oalloc Try.zeroValue41 rfl rfl ?_
  intro b4 w4 e4 hb4 hz4 O4
  have E := E.trans e4
  replace S := S.ext e4
  replace h12_2 := h12_2.ext e4
  replace h12_3 := h12_3.ext e4
  replace O1 := O1.ext e4
  replace O4 : Own w4 b4 [.int .i64 0, .slice none 0 0] 41 := O4
  refine ov (xassign rfl) rfl rfl rfl ?_
  refine ostoreN (vs := _) Try.sizeOf41 rfl rfl O4 rfl (by simp) (by simp [Value.oneCell']) rfl ?_
  intro w5 on5 O5
  have hz5 := on5.size
  have E := on5.ext E (by omega)
  replace S := S.off (Mk.ofOnly on5 (Nat.le_refl _) (Nat.lt_succ_self _)) (by omega)
  replace h12_2 := h12_2.only on5 (by omega)
  replace h12_3 := h12_3.only on5 (by omega)
  replace O1 := on5.own O1 (by omega)
  replace O5 : Own w5 b4 [.int .i64 r12_5, .slice r12_6 r12_7 r12_8] 41 := O5
  refine ops_nil ?_
  refine run_seq ?_
  refine run_rg (τ := [(3, .pointer (some ⟨b1, 0, none⟩)), (5, .pointer (some ⟨b9_, 0, none⟩)), (6, .slice r12_1 r12_2 r12_3), (7, .pointer (some ⟨b4, 0, none⟩))]) 14 [15, 16, 17, 18, 19, 20, 21, 22, 23, 24, 25, 2, 4] (fun u_ => Mk b1 (b9_ + 1) w5 u_ ∧ Src u_ b9_ w.heap.size ∧ ∃ cs_ : List Value, cs_.length = 2 ∧ Own u_ b1 cs_ 41) (fun i_ => if i_ = 12 then Mk b1 (b1 + 1) else Mk b9_ (b9_ + 1)) (fun i_ v_ u_ => match i_ with | 0 => v_ = .slice r12_1 r12_2 r12_3 | 1 => v_ = .agg #[.int .i64 r12_5, .slice r12_6 r12_7 r12_8] | 2 => v_ = .pointer (some ⟨b9_, 0, none⟩) | 3 => v_ = .slice r12_1 r12_2 r12_3 | 4 => v_ = .int .i64 (r12_2 : Int) | 5 => v_ = .int .i64 ((r12_2 : Int) + 1) | 6 => ∃ (y0_ : Int), v_ = .int .i64 y0_ ∧ 0 ≤ y0_ ∧ (y0_ < ((r12_2 : Int) + 1) ∨ y0_ = 0) | 7 => v_ = .pointer (some ⟨b9_, 0, none⟩) | 8 => ∃ (y0_ : Int), v_ = .int .i64 y0_ ∧ 0 ≤ y0_ ∧ (y0_ < 24 ∨ y0_ = 0) | 9 => ∃ (y0_ : Int), v_ = .int .i64 (y0_ / 23) ∧ 0 ≤ y0_ ∧ (y0_ < 24 ∨ y0_ = 0) | 10 => ∃ (y0_ : Int) (y1_ : Int), v_ = .int .i64 (y0_ - (y1_ / 23)) ∧ 0 ≤ y0_ ∧ (y0_ < ((r12_2 : Int) + 1) ∨ y0_ = 0) ∧ 0 ≤ y1_ ∧ (y1_ < 24 ∨ y1_ = 0) | 11 => v_ = .slice r12_1 r12_2 r12_3 | 12 => Own u_ b1 [.int .i64 r12_5, .slice r12_6 r12_7 r12_8] 41 | 13 => ∃ (y0_ : Int) (y1_ : Int), v_ = .int .i64 (y0_ - (y1_ / 23)) ∧ 0 ≤ y0_ ∧ (y0_ < ((r12_2 : Int) + 1) ∨ y0_ = 0) ∧ 0 ≤ y1_ ∧ (y1_ < 24 ∨ y1_ = 0) | _ => True) [(11, some 2), (12, none), (13, some 4)] (by kernel_rfl) (by kernel_rfl) (by kernel_rfl) (by kernel_rfl) (by kernel_rfl) (by kernel_rfl) ⟨rfl, rfl, rfl, rfl, trivial⟩ rfl (fun u_ e_ z_ => ⟨Mk.ofExt e_, S.ext e_, ⟨_, rfl, O1.ext e_⟩⟩) ?_ ?_ ?_
  · intro i_ j_ hi_ hj_ hij_ v_ u_ u2_ I_ I2_ r_ g_
    have zu_ := I_.1.size
    have rw_ : Mk b1 (b9_ + 1) u_ u2_ := by
      by_cases h_ : i_ = 12
      · simp only [h_, if_true] at r_; exact r_.wide (by omega) (by omega)
      · simp only [h_, if_false] at r_; exact r_.wide (by omega) (by omega)
    have rs_ : i_ ≠ 12 → Mk b9_ (b9_ + 1) u_ u2_ := fun h_ => by simp only [h_, if_false] at r_; exact r_
    clear hi_
    rcases (by omega : j_ = 0 ∨ j_ = 1 ∨ j_ = 2 ∨ j_ = 3 ∨ j_ = 4 ∨ j_ = 5 ∨ j_ = 6 ∨ j_ = 7 ∨ j_ = 8 ∨ j_ = 9 ∨ j_ = 10 ∨ j_ = 11 ∨ j_ = 12 ∨ j_ = 13) with rfl | rfl | rfl | rfl | rfl | rfl | rfl | rfl | rfl | rfl | rfl | rfl | rfl | rfl
    · exact g_
    · exact g_
    · exact g_
    · exact g_
    · exact g_
    · exact g_
    · exact g_
    · exact g_
    · exact g_
    · exact g_
    · exact g_
    · exact g_
    · have f912_0 := g_
      exact (rs_ hij_).own f912_0 (by omega)
    · exact g_
  ·
    refine rga [] (by kernel_rfl) ?_ ?_
    · intro u_ I_
      have zu_ := I_.1.size
      refine rg_val (xmove rfl) rfl I_ (by simpa using Mk.refl _ _ _) rfl
    refine rga [] (by kernel_rfl) ?_ ?_
    · intro u_ I_
      have zu_ := I_.1.size
      have OB_ := I_.1.own O5 (by omega)
      refine rg_val (xloadN Try.isAgg41 Try.sizeOf41 rfl (OB_.cells) rfl) rfl I_ (by simpa using Mk.refl _ _ _) rfl
    refine rga [] (by kernel_rfl) ?_ ?_
    · intro u_ I_
      have zu_ := I_.1.size
      refine rg_val (xmove rfl) rfl I_ (by simpa using Mk.refl _ _ _) rfl
    refine rga [] (by kernel_rfl) ?_ ?_
    · intro u_ I_
      have zu_ := I_.1.size
      refine rg_val (xmove rfl) rfl I_ (by simpa using Mk.refl _ _ _) rfl
    refine rga [(3, some 18)] (by kernel_rfl) ?_ ?_
    · rintro u_ I_ _ rfl
      have zu_ := I_.1.size
      refine rg_val (xlen Try.underlying25 rfl) rfl I_ (by simpa using Mk.refl _ _ _) rfl
    refine rga [(4, some 19)] (by kernel_rfl) ?_ ?_
    · rintro u_ I_ _ rfl
      have zu_ := I_.1.size
      refine rg_val (xadd rfl rfl (by unfold I64; omega)) rfl I_ (by simpa using Mk.refl _ _ _) rfl
    refine rga [(2, some 17), (5, some 20)] (by kernel_rfl) ?_ ?_
    · rintro u_ I_ _ rfl _ rfl
      have zu_ := I_.1.size
      refine rg_call (xcall Try.call126 rfl) rfl (l01Next_ok b9_ w.heap.size (((r12_2 : Int) + 1)) _ I_.2.1) ?_
      rintro _ w_ ⟨r_0, rfl, h_0, h_1, m_, S_⟩
      exact ⟨⟨I_.1.trans (m_.wide (by omega) (by omega)), S_, (let ⟨cs_, hl_, ho_⟩ := I_.2.2; ⟨cs_, hl_, m_.own ho_ (by omega)⟩)⟩, (by simpa using m_), ⟨r_0, rfl, h_0, h_1⟩⟩
    refine rga [] (by kernel_rfl) ?_ ?_
    · intro u_ I_
      have zu_ := I_.1.size
      refine rg_val (xmove rfl) rfl I_ (by simpa using Mk.refl _ _ _) rfl
    refine rga [(7, some 22)] (by kernel_rfl) ?_ ?_
    · rintro u_ I_ _ rfl
      have zu_ := I_.1.size
      refine rg_call (xcall Try.call126 rfl) rfl (l01Next_ok b9_ w.heap.size (24) _ I_.2.1) ?_
      rintro _ w_ ⟨r_0, rfl, h_0, h_1, m_, S_⟩
      exact ⟨⟨I_.1.trans (m_.wide (by omega) (by omega)), S_, (let ⟨cs_, hl_, ho_⟩ := I_.2.2; ⟨cs_, hl_, m_.own ho_ (by omega)⟩)⟩, (by simpa using m_), ⟨r_0, rfl, h_0, h_1⟩⟩
    refine rga [(8, some 23)] (by kernel_rfl) ?_ ?_
    · rintro u_ I_ _ ⟨g23_0, rfl, f23_0, f23_1⟩
      have zu_ := I_.1.size
      refine rg_val (xquo rfl rfl (by omega) (by omega) (by unfold I64; omega)) rfl I_ (by simpa using Mk.refl _ _ _) ⟨g23_0, rfl, f23_0, f23_1⟩
    refine rga [(6, some 21), (9, some 24)] (by kernel_rfl) ?_ ?_
    · rintro u_ I_ _ ⟨g21_0, rfl, f21_0, f21_1⟩ _ ⟨g24_0, rfl, f24_0, f24_1⟩
      have zu_ := I_.1.size
      refine rg_val (xsub rfl rfl (by unfold I64; omega)) rfl I_ (by simpa using Mk.refl _ _ _) ⟨g21_0, g24_0, rfl, f21_0, f21_1, f24_0, f24_1⟩
    refine rga [(0, some 15)] (by kernel_rfl) ?_ ?_
    · rintro u_ I_ _ rfl
      have zu_ := I_.1.size
      refine rg_val (xassign rfl) rfl I_ (by simpa using Mk.refl _ _ _) rfl
    refine rga [(1, some 16)] (by kernel_rfl) ?_ ?_
    · rintro u_ I_ _ rfl
      have zu_ := I_.1.size
      obtain ⟨I1_, I2_, cs_, hl_, ho_⟩ := I_
      refine rg_storeN (vs := [.int .i64 r12_5, .slice r12_6 r12_7 r12_8]) Try.sizeOf41 rfl rfl ho_ rfl hl_ (by simp [Value.oneCell']) rfl ?_
      intro w_ on_ o_
      refine ⟨⟨I1_.trans (Mk.ofOnly on_ (by omega) (by omega)), I2_.off (Mk.ofOnly on_ (Nat.le_refl _) (Nat.lt_succ_self _)) (by omega), ⟨_, rfl, o_⟩⟩, (by simpa using Mk.ofOnly on_ (Nat.le_refl _) (Nat.lt_succ_self _)), o_⟩
    refine rga [(10, some 25)] (by kernel_rfl) ?_ ?_
    · rintro u_ I_ _ ⟨g25_0, g25_1, rfl, f25_0, f25_1, f25_2, f25_3⟩
      have zu_ := I_.1.size
      refine rg_val (xassign rfl) rfl I_ (by simpa using Mk.refl _ _ _) ⟨g25_0, g25_1, rfl, f25_0, f25_1, f25_2, f25_3⟩
    exact rga_nil
  ·
    rintro w6 I_ _ rfl _ f912_0 _ ⟨g4_0, g4_1, rfl, f4_0, f4_1, f4_2, f4_3⟩
    have m6 := I_.1
    have z6 := m6.size
    have E := m6.toExt E (by omega)
    replace S := I_.2.1
    replace h12_2 := h12_2.off m6 (by omega)
    replace h12_3 := h12_3.off m6 (by omega)
    replace O5 := m6.own O5 (by omega)
    refine ops_nil ?_
    refine run_ret Try.func72 (resc3 rfl rfl rfl (run_loadVar_cells Try.isAgg41 Try.sizeOf41 f912_0.cells rfl) rfl) ?_
    exact ⟨_, rfl, E, _, _, _, _, _, _, _, _, _, _, rfl, h12_0, by omega, h12_2.wide (by omega) (by omega), h12_3.wide (by omega) (by omega), by omega, by omega⟩

set_option maxHeartbeats 1000000 in
theorem DrawJurorVerdict_ok (p : Option Addr) (n c : Nat) (bs : List Int) (w : World) (H : Sl u8c 1 w p n c bs) (hbs : ∀ x ∈ bs, 0 ≤ x ∧ x ≤ 255) : Ret Try.prog 74 [.slice p n c] w (fun v w' => Ext w w' ∧ ∃ (xs : List Question) (q : Option Addr) (m d : Nat) (vs : List (List Int)) (nd : Int) (p2 : Option Addr) (n2 c2 : Nat) (r : Int), v = .tuple #[.slice q m d, .agg #[.int .i64 nd, .slice p2 n2 c2], .int .i64 r] ∧ (∀ x ∈ xs, x.Label.size ≤ 9223372036854775807) ∧ m ≤ 11 ∧ SlF Question.cells 3 w' w.heap.size w'.heap.size q m d xs ∧ OnInt64SS w' w.heap.size w'.heap.size p2 n2 c2 vs ∧ n2 ≤ 13 ∧ (-100 ≤ r ∧ r ≤ 100)) := by
  refine ret_of_run (N := 27) Try.func74 rfl rfl rfl ?_
  have hfar := H.blk (fun x => by simp [u8c])
  have E : Ext w w := Ext.refl w
  refine run_seq ?_
  refine run_region ?_
  refine ov (xassign rfl) rfl rfl rfl ?_
  refine oalloc Try.zeroValue41 rfl rfl ?_
  intro b1 w1 e1 hb1 hz1 O1
  have E := E.trans e1
  replace O1 : Own w1 b1 [.int .i64 0, .slice none 0 0] 41 := O1
  refine ov (xassign rfl) rfl rfl rfl ?_
  refine ops_nil ?_
  refine run_seq ?_
  refine run_region ?_
  refine ov (xmove rfl) rfl rfl rfl ?_
  refine oc (xcall Try.call125 rfl) rfl rfl rfl (l01From_ok _ _ _ _ _ (H.ext E) (by assumption) w.heap.size hfar (by omega)) ?_
  rintro _ w2 ⟨e2, b9_, rfl, hcb9, S⟩
  have z2 := e2.size
  have E := E.trans e2
  replace O1 := O1.ext e2
  have hcc9 := S.cb
  have hbl9 := S.lt
  refine ov (xassign rfl) rfl rfl rfl ?_
  refine ops_nil ?_
  refine run_seq ?_
  refine run_region ?_
  refine ov (xmove rfl) rfl rfl rfl ?_
  refine oc (xcall Try.call127 rfl) rfl rfl rfl (l27Draw_ok b9_ w.heap.size _ S) ?_
  rintro _ w3 ⟨r12_0, r12_1, r12_2, r12_3, r12_4, r12_5, r12_6, r12_7, r12_8, rfl, h12_0, h12_1, h12_2, h12_3, h12_4, m3, S3⟩
  have z3 := m3.size
  have E := m3.toExt E (by omega)
  replace O1 := m3.own O1 (by omega)
  replace S := S3
  refine ov (xmove rfl) rfl rfl rfl ?_
  refine ov (xextract rfl rfl) rfl rfl rfl ?_
  refine ov (xextract rfl rfl) rfl rfl rfl ?_
  refine oalloc Try.zeroValue41 rfl rfl ?_
  intro b4 w4 e4 hb4 hz4 O4
  have E := E.trans e4
  replace S := S.ext e4
  replace h12_2 := h12_2.ext e4
  replace h12_3 := h12_3.ext e4
  replace O1 := O1.ext e4
  replace O4 : Own w4 b4 [.int .i64 0, .slice none 0 0] 41 := O4
  refine ov (xassign rfl) rfl rfl rfl ?_
  refine ostoreN (vs := _) Try.sizeOf41 rfl rfl O4 rfl (by simp) (by simp [Value.oneCell']) rfl ?_
  intro w5 on5 O5
  have hz5 := on5.size
  have E := on5.ext E (by omega)
  replace S := S.off (Mk.ofOnly on5 (Nat.le_refl _) (Nat.lt_succ_self _)) (by omega)
  replace h12_2 := h12_2.only on5 (by omega)
  replace h12_3 := h12_3.only on5 (by omega)
  replace O1 := on5.own O1 (by omega)
  replace O5 : Own w5 b4 [.int .i64 r12_5, .slice r12_6 r12_7 r12_8] 41 := O5
  refine ops_nil ?_
  refine run_seq ?_
  refine run_rg (τ := [(3, .pointer (some ⟨b1, 0, none⟩)), (5, .pointer (some ⟨b9_, 0, none⟩)), (6, .slice r12_1 r12_2 r12_3), (7, .pointer (some ⟨b4, 0, none⟩))]) 15 [15, 16, 17, 18, 19, 20, 21, 22, 23, 24, 25, 26, 2, 4] (fun u_ => Mk b1 (b9_ + 1) w5 u_ ∧ Src u_ b9_ w.heap.size ∧ ∃ cs_ : List Value, cs_.length = 2 ∧ Own u_ b1 cs_ 41) (fun i_ => if i_ = 13 then Mk b1 (b1 + 1) else Mk b9_ (b9_ + 1)) (fun i_ v_ u_ => match i_ with | 0 => v_ = .slice r12_1 r12_2 r12_3 | 1 => v_ = .agg #[.int .i64 r12_5, .slice r12_6 r12_7 r12_8] | 2 => v_ = .pointer (some ⟨b9_, 0, none⟩) | 3 => v_ = .pointer (some ⟨b4, 0 + 1, none⟩) | 4 => v_ = .slice r12_6 r12_7 r12_8 | 5 => v_ = .int .i64 (r12_7 : Int) | 6 => v_ = .int .i64 ((r12_7 : Int) + 1) | 7 => ∃ (y0_ : Int), v_ = .int .i64 y0_ ∧ 0 ≤ y0_ ∧ (y0_ < ((r12_7 : Int) + 1) ∨ y0_ = 0) | 8 => v_ = .pointer (some ⟨b9_, 0, none⟩) | 9 => ∃ (y0_ : Int), v_ = .int .i64 y0_ ∧ 0 ≤ y0_ ∧ (y0_ < 24 ∨ y0_ = 0) | 10 => ∃ (y0_ : Int), v_ = .int .i64 (y0_ / 23) ∧ 0 ≤ y0_ ∧ (y0_ < 24 ∨ y0_ = 0) | 11 => ∃ (y0_ : Int) (y1_ : Int), v_ = .int .i64 (y0_ - (y1_ / 23)) ∧ 0 ≤ y0_ ∧ (y0_ < ((r12_7 : Int) + 1) ∨ y0_ = 0) ∧ 0 ≤ y1_ ∧ (y1_ < 24 ∨ y1_ = 0) | 12 => v_ = .slice r12_1 r12_2 r12_3 | 13 => Own u_ b1 [.int .i64 r12_5, .slice r12_6 r12_7 r12_8] 41 | 14 => ∃ (y0_ : Int) (y1_ : Int), v_ = .int .i64 (y0_ - (y1_ / 23)) ∧ 0 ≤ y0_ ∧ (y0_ < ((r12_7 : Int) + 1) ∨ y0_ = 0) ∧ 0 ≤ y1_ ∧ (y1_ < 24 ∨ y1_ = 0) | _ => True) [(12, some 2), (13, none), (14, some 4)] (by kernel_rfl) (by kernel_rfl) (by kernel_rfl) (by kernel_rfl) (by kernel_rfl) (by kernel_rfl) ⟨rfl, rfl, rfl, rfl, trivial⟩ rfl (fun u_ e_ z_ => ⟨Mk.ofExt e_, S.ext e_, ⟨_, rfl, O1.ext e_⟩⟩) ?_ ?_ ?_
  · intro i_ j_ hi_ hj_ hij_ v_ u_ u2_ I_ I2_ r_ g_
    have zu_ := I_.1.size
    have rw_ : Mk b1 (b9_ + 1) u_ u2_ := by
      by_cases h_ : i_ = 13
      · simp only [h_, if_true] at r_; exact r_.wide (by omega) (by omega)
      · simp only [h_, if_false] at r_; exact r_.wide (by omega) (by omega)
    have rs_ : i_ ≠ 13 → Mk b9_ (b9_ + 1) u_ u2_ := fun h_ => by simp only [h_, if_false] at r_; exact r_
    clear hi_
    rcases (by omega : j_ = 0 ∨ j_ = 1 ∨ j_ = 2 ∨ j_ = 3 ∨ j_ = 4 ∨ j_ = 5 ∨ j_ = 6 ∨ j_ = 7 ∨ j_ = 8 ∨ j_ = 9 ∨ j_ = 10 ∨ j_ = 11 ∨ j_ = 12 ∨ j_ = 13 ∨ j_ = 14) with rfl | rfl | rfl | rfl | rfl | rfl | rfl | rfl | rfl | rfl | rfl | rfl | rfl | rfl | rfl
    · exact g_
    · exact g_
    · exact g_
    · exact g_
    · exact g_
    · exact g_
    · exact g_
    · exact g_
    · exact g_
    · exact g_
    · exact g_
    · exact g_
    · exact g_
    · have f913_0 := g_
      exact (rs_ hij_).own f913_0 (by omega)
    · exact g_
  ·
    refine rga [] (by kernel_rfl) ?_ ?_
    · intro u_ I_
      have zu_ := I_.1.size
      refine rg_val (xmove rfl) rfl I_ (by simpa using Mk.refl _ _ _) rfl
    refine rga [] (by kernel_rfl) ?_ ?_
    · intro u_ I_
      have zu_ := I_.1.size
      have OB_ := I_.1.own O5 (by omega)
      refine rg_val (xloadN Try.isAgg41 Try.sizeOf41 rfl (OB_.cells) rfl) rfl I_ (by simpa using Mk.refl _ _ _) rfl
    refine rga [] (by kernel_rfl) ?_ ?_
    · intro u_ I_
      have zu_ := I_.1.size
      refine rg_val (xmove rfl) rfl I_ (by simpa using Mk.refl _ _ _) rfl
    refine rga [] (by kernel_rfl) ?_ ?_
    · intro u_ I_
      have zu_ := I_.1.size
      refine rg_val (xfieldAddr fo41f1 rfl) rfl I_ (by simpa using Mk.refl _ _ _) rfl
    refine rga [(3, some 18)] (by kernel_rfl) ?_ ?_
    · rintro u_ I_ _ rfl
      have zu_ := I_.1.size
      have OB_ := I_.1.own O5 (by omega)
      refine rg_val (xload1 Try.isAgg36 rfl (OB_.cells) rfl) rfl I_ (by simpa using Mk.refl _ _ _) rfl
    refine rga [(4, some 19)] (by kernel_rfl) ?_ ?_
    · rintro u_ I_ _ rfl
      have zu_ := I_.1.size
      refine rg_val (xlen Try.underlying36 rfl) rfl I_ (by simpa using Mk.refl _ _ _) rfl
    refine rga [(5, some 20)] (by kernel_rfl) ?_ ?_
    · rintro u_ I_ _ rfl
      have zu_ := I_.1.size
      refine rg_val (xadd rfl rfl (by unfold I64; omega)) rfl I_ (by simpa using Mk.refl _ _ _) rfl
    refine rga [(2, some 17), (6, some 21)] (by kernel_rfl) ?_ ?_
    · rintro u_ I_ _ rfl _ rfl
      have zu_ := I_.1.size
      refine rg_call (xcall Try.call126 rfl) rfl (l01Next_ok b9_ w.heap.size (((r12_7 : Int) + 1)) _ I_.2.1) ?_
      rintro _ w_ ⟨r_0, rfl, h_0, h_1, m_, S_⟩
      exact ⟨⟨I_.1.trans (m_.wide (by omega) (by omega)), S_, (let ⟨cs_, hl_, ho_⟩ := I_.2.2; ⟨cs_, hl_, m_.own ho_ (by omega)⟩)⟩, (by simpa using m_), ⟨r_0, rfl, h_0, h_1⟩⟩
    refine rga [] (by kernel_rfl) ?_ ?_
    · intro u_ I_
      have zu_ := I_.1.size
      refine rg_val (xmove rfl) rfl I_ (by simpa using Mk.refl _ _ _) rfl
    refine rga [(8, some 23)] (by kernel_rfl) ?_ ?_
    · rintro u_ I_ _ rfl
      have zu_ := I_.1.size
      refine rg_call (xcall Try.call126 rfl) rfl (l01Next_ok b9_ w.heap.size (24) _ I_.2.1) ?_
      rintro _ w_ ⟨r_0, rfl, h_0, h_1, m_, S_⟩
      exact ⟨⟨I_.1.trans (m_.wide (by omega) (by omega)), S_, (let ⟨cs_, hl_, ho_⟩ := I_.2.2; ⟨cs_, hl_, m_.own ho_ (by omega)⟩)⟩, (by simpa using m_), ⟨r_0, rfl, h_0, h_1⟩⟩
    refine rga [(9, some 24)] (by kernel_rfl) ?_ ?_
    · rintro u_ I_ _ ⟨g24_0, rfl, f24_0, f24_1⟩
      have zu_ := I_.1.size
      refine rg_val (xquo rfl rfl (by omega) (by omega) (by unfold I64; omega)) rfl I_ (by simpa using Mk.refl _ _ _) ⟨g24_0, rfl, f24_0, f24_1⟩
    refine rga [(7, some 22), (10, some 25)] (by kernel_rfl) ?_ ?_
    · rintro u_ I_ _ ⟨g22_0, rfl, f22_0, f22_1⟩ _ ⟨g25_0, rfl, f25_0, f25_1⟩
      have zu_ := I_.1.size
      refine rg_val (xsub rfl rfl (by unfold I64; omega)) rfl I_ (by simpa using Mk.refl _ _ _) ⟨g22_0, g25_0, rfl, f22_0, f22_1, f25_0, f25_1⟩
    refine rga [(0, some 15)] (by kernel_rfl) ?_ ?_
    · rintro u_ I_ _ rfl
      have zu_ := I_.1.size
      refine rg_val (xassign rfl) rfl I_ (by simpa using Mk.refl _ _ _) rfl
    refine rga [(1, some 16)] (by kernel_rfl) ?_ ?_
    · rintro u_ I_ _ rfl
      have zu_ := I_.1.size
      obtain ⟨I1_, I2_, cs_, hl_, ho_⟩ := I_
      refine rg_storeN (vs := [.int .i64 r12_5, .slice r12_6 r12_7 r12_8]) Try.sizeOf41 rfl rfl ho_ rfl hl_ (by simp [Value.oneCell']) rfl ?_
      intro w_ on_ o_
      refine ⟨⟨I1_.trans (Mk.ofOnly on_ (by omega) (by omega)), I2_.off (Mk.ofOnly on_ (Nat.le_refl _) (Nat.lt_succ_self _)) (by omega), ⟨_, rfl, o_⟩⟩, (by simpa using Mk.ofOnly on_ (Nat.le_refl _) (Nat.lt_succ_self _)), o_⟩
    refine rga [(11, some 26)] (by kernel_rfl) ?_ ?_
    · rintro u_ I_ _ ⟨g26_0, g26_1, rfl, f26_0, f26_1, f26_2, f26_3⟩
      have zu_ := I_.1.size
      refine rg_val (xassign rfl) rfl I_ (by simpa using Mk.refl _ _ _) ⟨g26_0, g26_1, rfl, f26_0, f26_1, f26_2, f26_3⟩
    exact rga_nil
  ·
    rintro w6 I_ _ rfl _ f913_0 _ ⟨g4_0, g4_1, rfl, f4_0, f4_1, f4_2, f4_3⟩
    have m6 := I_.1
    have z6 := m6.size
    have E := m6.toExt E (by omega)
    replace S := I_.2.1
    replace h12_2 := h12_2.off m6 (by omega)
    replace h12_3 := h12_3.off m6 (by omega)
    replace O5 := m6.own O5 (by omega)
    refine ops_nil ?_
    refine run_ret Try.func74 (resc3 rfl rfl rfl (run_loadVar_cells Try.isAgg41 Try.sizeOf41 f913_0.cells rfl) rfl) ?_
    exact ⟨_, rfl, E, _, _, _, _, _, _, _, _, _, _, rfl, h12_0, by omega, h12_2.wide (by omega) (by omega), h12_3.wide (by omega) (by omega), by omega, by omega⟩

set_option maxHeartbeats 1000000 in
theorem DrawTurnVote_ok (p : Option Addr) (n c : Nat) (bs : List Int) (w : World) (H : Sl u8c 1 w p n c bs) (hbs : ∀ x ∈ bs, 0 ≤ x ∧ x ≤ 255) : Ret Try.prog 73 [.slice p n c] w (fun v w' => Ext w w' ∧ ∃ (xs : List Question) (q : Option Addr) (m d : Nat) (vs : List (List Int)) (nd : Int) (p2 : Option Addr) (n2 c2 : Nat) (r s : Int), v = .tuple #[.slice q m d, .agg #[.int .i64 nd, .slice p2 n2 c2], .int .i64 r, .int .i64 s] ∧ (∀ x ∈ xs, x.Label.size ≤ 9223372036854775807) ∧ m ≤ 11 ∧ SlF Question.cells 3 w' w.heap.size w'.heap.size q m d xs ∧ OnInt64SS w' w.heap.size w'.heap.size p2 n2 c2 vs ∧ n2 ≤ 13 ∧ (-100 ≤ r ∧ r ≤ 100) ∧ (-100 ≤ s ∧ s ≤ 100)) := by
  refine ret_of_run (N := 26) Try.func73 rfl rfl rfl ?_
  have hfar := H.blk (fun x => by simp [u8c])
  have E : Ext w w := Ext.refl w
  refine run_seq ?_
  refine run_region ?_
  refine ov (xassign rfl) rfl rfl rfl ?_
  refine oalloc Try.zeroValue41 rfl rfl ?_
  intro b1 w1 e1 hb1 hz1 O1
  have E := E.trans e1
  replace O1 : Own w1 b1 [.int .i64 0, .slice none 0 0] 41 := O1
  refine ov (xassign rfl) rfl rfl rfl ?_
  refine ov (xassign rfl) rfl rfl rfl ?_
  refine ops_nil ?_
  refine run_seq ?_
  refine run_region ?_
  refine ov (xmove rfl) rfl rfl rfl ?_
  refine oc (xcall Try.call125 rfl) rfl rfl rfl (l01From_ok _ _ _ _ _ (H.ext E) (by assumption) w.heap.size hfar (by omega)) ?_
  rintro _ w2 ⟨e2, b11_, rfl, hcb11, S⟩
  have z2 := e2.size
  have E := E.trans e2
  replace O1 := O1.ext e2
  have hcc11 := S.cb
  have hbl11 := S.lt
  refine ov (xassign rfl) rfl rfl rfl ?_
  refine ops_nil ?_
  refine run_seq ?_
  refine run_region ?_
  refine ov (xmove rfl) rfl rfl rfl ?_
  refine oc (xcall Try.call74 rfl) rfl rfl rfl (DrawJurorVerdict_ok _ _ _ _ _ (H.ext E) (by assumption)) ?_
  rintro _ w3 ⟨e3, xs14, q14, m14, d14, vs14, nd14, p14, n14, k14, r14, rfl, ok14, hm14, F14, V14, hn14, hr14⟩
  have z3 := e3.size
  have E := E.trans e3
  replace S := S.ext e3
  replace O1 := O1.ext e3
  have lF14 := F14.sl.len
  have lV14 := V14.len
  refine ov (xmove rfl) rfl rfl rfl ?_
  refine ov (xextract rfl rfl) rfl rfl rfl ?_
  refine ov (xextract rfl rfl) rfl rfl rfl ?_
  refine ov (xextract rfl rfl) rfl rfl rfl ?_
  refine oalloc Try.zeroValue41 rfl rfl ?_
  intro b4 w4 e4 hb4 hz4 O4
  have E := E.trans e4
  replace S := S.ext e4
  replace F14 := F14.ext e4
  replace V14 := V14.ext e4
  replace O1 := O1.ext e4
  replace O4 : Own w4 b4 [.int .i64 0, .slice none 0 0] 41 := O4
  refine ov (xassign rfl) rfl rfl rfl ?_
  refine ostoreN (vs := _) Try.sizeOf41 rfl rfl O4 rfl (by simp) (by simp [Value.oneCell']) rfl ?_
  intro w5 on5 O5
  have hz5 := on5.size
  have E := on5.ext E (by omega)
  replace S := S.off (Mk.ofOnly on5 (Nat.le_refl _) (Nat.lt_succ_self _)) (by omega)
  replace F14 := F14.only on5 (by omega)
  replace V14 := V14.only on5 (by omega)
  replace O1 := on5.own O1 (by omega)
  replace O5 : Own w5 b4 [.int .i64 nd14, .slice p14 n14 k14] 41 := O5
  refine ov (xassign rfl) rfl rfl rfl ?_
  refine ops_nil ?_
  refine run_seq ?_
  refine run_rg (τ := [(3, .pointer (some ⟨b1, 0, none⟩)), (6, .pointer (some ⟨b11_, 0, none⟩)), (7, .slice q14 m14 d14), (8, .pointer (some ⟨b4, 0, none⟩)), (9, .int .i64 r14)]) 12 [18, 19, 20, 21, 22, 23, 24, 25, 2, 4, 5] (fun u_ => Mk b1 (b11_ + 1) w5 u_ ∧ Src u_ b11_ w.heap.size ∧ ∃ cs_ : List Value, cs_.length = 2 ∧ Own u_ b1 cs_ 41) (fun i_ => if i_ = 9 then Mk b1 (b1 + 1) else Mk b11_ (b11_ + 1)) (fun i_ v_ u_ => match i_ with | 0 => v_ = .slice q14 m14 d14 | 1 => v_ = .agg #[.int .i64 nd14, .slice p14 n14 k14] | 2 => v_ = .int .i64 r14 | 3 => v_ = .pointer (some ⟨b11_, 0, none⟩) | 4 => v_ = .slice q14 m14 d14 | 5 => v_ = .int .i64 (m14 : Int) | 6 => v_ = .int .i64 ((m14 : Int) + 1) | 7 => ∃ (y0_ : Int), v_ = .int .i64 y0_ ∧ 0 ≤ y0_ ∧ (y0_ < ((m14 : Int) + 1) ∨ y0_ = 0) | 8 => v_ = .slice q14 m14 d14 | 9 => Own u_ b1 [.int .i64 nd14, .slice p14 n14 k14] 41 | 10 => v_ = .int .i64 r14 | 11 => ∃ (y0_ : Int), v_ = .int .i64 y0_ ∧ 0 ≤ y0_ ∧ (y0_ < ((m14 : Int) + 1) ∨ y0_ = 0) | _ => True) [(8, some 2), (9, none), (10, some 4), (11, some 5)] (by kernel_rfl) (by kernel_rfl) (by kernel_rfl) (by kernel_rfl) (by kernel_rfl) (by kernel_rfl) ⟨rfl, rfl, rfl, rfl, rfl, trivial⟩ rfl (fun u_ e_ z_ => ⟨Mk.ofExt e_, S.ext e_, ⟨_, rfl, O1.ext e_⟩⟩) ?_ ?_ ?_
  · intro i_ j_ hi_ hj_ hij_ v_ u_ u2_ I_ I2_ r_ g_
    have zu_ := I_.1.size
    have rw_ : Mk b1 (b11_ + 1) u_ u2_ := by
      by_cases h_ : i_ = 9
      · simp only [h_, if_true] at r_; exact r_.wide (by omega) (by omega)
      · simp only [h_, if_false] at r_; exact r_.wide (by omega) (by omega)
    have rs_ : i_ ≠ 9 → Mk b11_ (b11_ + 1) u_ u2_ := fun h_ => by simp only [h_, if_false] at r_; exact r_
    clear hi_
    rcases (by omega : j_ = 0 ∨ j_ = 1 ∨ j_ = 2 ∨ j_ = 3 ∨ j_ = 4 ∨ j_ = 5 ∨ j_ = 6 ∨ j_ = 7 ∨ j_ = 8 ∨ j_ = 9 ∨ j_ = 10 ∨ j_ = 11) with rfl | rfl | rfl | rfl | rfl | rfl | rfl | rfl | rfl | rfl | rfl | rfl
    · exact g_
    · exact g_
    · exact g_
    · exact g_
    · exact g_
    · exact g_
    · exact g_
    · exact g_
    · exact g_
    · have f909_0 := g_
      exact (rs_ hij_).own f909_0 (by omega)
    · exact g_
    · exact g_
  ·
    refine rga [] (by kernel_rfl) ?_ ?_
    · intro u_ I_
      have zu_ := I_.1.size
      refine rg_val (xmove rfl) rfl I_ (by simpa using Mk.refl _ _ _) rfl
    refine rga [] (by kernel_rfl) ?_ ?_
    · intro u_ I_
      have zu_ := I_.1.size
      have OB_ := I_.1.own O5 (by omega)
      refine rg_val (xloadN Try.isAgg41 Try.sizeOf41 rfl (OB_.cells) rfl) rfl I_ (by simpa using Mk.refl _ _ _) rfl
    refine rga [] (by kernel_rfl) ?_ ?_
    · intro u_ I_
      have zu_ := I_.1.size
      refine rg_val (xmove rfl) rfl I_ (by simpa using Mk.refl _ _ _) rfl
    refine rga [] (by kernel_rfl) ?_ ?_
    · intro u_ I_
      have zu_ := I_.1.size
      refine rg_val (xmove rfl) rfl I_ (by simpa using Mk.refl _ _ _) rfl
    refine rga [] (by kernel_rfl) ?_ ?_
    · intro u_ I_
      have zu_ := I_.1.size
      refine rg_val (xmove rfl) rfl I_ (by simpa using Mk.refl _ _ _) rfl
    refine rga [(4, some 22)] (by kernel_rfl) ?_ ?_
    · rintro u_ I_ _ rfl
      have zu_ := I_.1.size
      refine rg_val (xlen Try.underlying25 rfl) rfl I_ (by simpa using Mk.refl _ _ _) rfl
    refine rga [(5, some 23)] (by kernel_rfl) ?_ ?_
    · rintro u_ I_ _ rfl
      have zu_ := I_.1.size
      refine rg_val (xadd rfl rfl (by unfold I64; omega)) rfl I_ (by simpa using Mk.refl _ _ _) rfl
    refine rga [(3, some 21), (6, some 24)] (by kernel_rfl) ?_ ?_
    · rintro u_ I_ _ rfl _ rfl
      have zu_ := I_.1.size
      refine rg_call (xcall Try.call126 rfl) rfl (l01Next_ok b11_ w.heap.size (((m14 : Int) + 1)) _ I_.2.1) ?_
      rintro _ w_ ⟨r_0, rfl, h_0, h_1, m_, S_⟩
      exact ⟨⟨I_.1.trans (m_.wide (by omega) (by omega)), S_, (let ⟨cs_, hl_, ho_⟩ := I_.2.2; ⟨cs_, hl_, m_.own ho_ (by omega)⟩)⟩, (by simpa using m_), ⟨r_0, rfl, h_0, h_1⟩⟩
    refine rga [(0, some 18)] (by kernel_rfl) ?_ ?_
    · rintro u_ I_ _ rfl
      have zu_ := I_.1.size
      refine rg_val (xassign rfl) rfl I_ (by simpa using Mk.refl _ _ _) rfl
    refine rga [(1, some 19)] (by kernel_rfl) ?_ ?_
    · rintro u_ I_ _ rfl
      have zu_ := I_.1.size
      obtain ⟨I1_, I2_, cs_, hl_, ho_⟩ := I_
      refine rg_storeN (vs := [.int .i64 nd14, .slice p14 n14 k14]) Try.sizeOf41 rfl rfl ho_ rfl hl_ (by simp [Value.oneCell']) rfl ?_
      intro w_ on_ o_
      refine ⟨⟨I1_.trans (Mk.ofOnly on_ (by omega) (by omega)), I2_.off (Mk.ofOnly on_ (Nat.le_refl _) (Nat.lt_succ_self _)) (by omega), ⟨_, rfl, o_⟩⟩, (by simpa using Mk.ofOnly on_ (Nat.le_refl _) (Nat.lt_succ_self _)), o_⟩
    refine rga [(2, some 20)] (by kernel_rfl) ?_ ?_
    · rintro u_ I_ _ rfl
      have zu_ := I_.1.size
      refine rg_val (xassign rfl) rfl I_ (by simpa using Mk.refl _ _ _) rfl
    refine rga [(7, some 25)] (by kernel_rfl) ?_ ?_
    · rintro u_ I_ _ ⟨g25_0, rfl, f25_0, f25_1⟩
      have zu_ := I_.1.size
      refine rg_val (xassign rfl) rfl I_ (by simpa using Mk.refl _ _ _) ⟨g25_0, rfl, f25_0, f25_1⟩
    exact rga_nil
  ·
    rintro w6 I_ _ rfl _ f909_0 _ rfl _ ⟨g5_0, rfl, f5_0, f5_1⟩
    have m6 := I_.1
    have z6 := m6.size
    have E := m6.toExt E (by omega)
    replace S := I_.2.1
    replace F14 := F14.off m6 (by omega)
    replace V14 := V14.off m6 (by omega)
    replace O5 := m6.own O5 (by omega)
    refine ops_nil ?_
    refine run_ret Try.func73 (resc4 rfl rfl rfl (run_loadVar_cells Try.isAgg41 Try.sizeOf41 f909_0.cells rfl) rfl rfl) ?_
    exact ⟨_, rfl, E, _, _, _, _, _, _, _, _, _, _, _, rfl, ok14, by omega, F14.wide (by omega) (by omega), V14.wide (by omega) (by omega), by omega, by omega, by omega⟩
end Go.Proofs.Ytinpkihmkfiidaa
